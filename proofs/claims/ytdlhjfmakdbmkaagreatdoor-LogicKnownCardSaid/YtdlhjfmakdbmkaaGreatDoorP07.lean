/- The abstract bodies of the functions, printed by a program of this work. -/
import Derived.Test.YtdlhjfmakdbmkaaGreatDoorP05
import Derived.Test.YtdlhjfmakdbmkaaGreatDoorP06
set_option linter.unusedSimpArgs false
set_option linter.unusedVariables false
set_option linter.unusedSectionVars false
namespace Go.Ev.B
open Go
def zOb:List AV:=[(.int .i64 0),(.bool false),(.int .i64 0),(.str []),(.int .i64 0),(.int .i64 0),(.int .i64 0)]
def zCe:List AV:=[(.int .i64 0),(.str []),.nilslice,.nilslice,.nilslice,(.int .i64 0),(.int .i64 0)]
def zKd:List AV:=[(.str []),(.int .i64 0),(.int .i64 0),(.int .i64 0),(.int .i64 0),(.int .i64 0)]
def z457:List AV:=[.nilslice,.nilslice,.nilslice,.nilslice,(.int .i64 0),(.int .i64 0),(.int .i64 0),(.int .i64 0),(.int .i64 0),(.int .i64 0),(.int .i64 0),.nilslice,
 (.int .i64 0),(.int .i64 0),(.int .i64 0),(.int .i64 0),(.int .i64 0),(.int .i64 0),(.int .i64 0),(.int .i64 0),(.int .i64 0),(.int .i64 0),(.int .i64 0),(.int .i64 0),(.int
 .i64 0),(.int .i64 0),(.int .i64 0),(.int .i64 0),(.int .i64 0),(.int .i64 0),(.int .i64 0),(.int .i64 0),(.bool false),(.bool false),.nilslice,(.int .i64 0),(.int .i64
 0),(.int .i64 0),(.int .i64 0),(.int .i64 0),(.int .i64 0),(.int .i64 0),(.int .i64 0),.nilslice,(.int .i64 0),(.int .i64 0),.nilslice,(.int .i64 0),(.bool false),(.int
 .i64 0),(.str []),(.int .i64 0),(.int .i64 0),(.int .i64 0),(.int .i64 0),(.int .i64 0),(.int .i64 0),(.int .i64 0),(.int .i64 0),(.int .i64 0),(.int .i64 0),(.int .i64
 0),.nilslice,.nilslice,.nilslice,(.str []),(.int .i64 0)]
def z533:List AV:=[(.str []),(.int .i64 0),(.int .i64 0),(.int .i64 0),(.int .i64 0),(.int .i64 0),(.str []),(.int .i64 0),(.int .i64 0),(.int .i64 0),(.int .i64 0),(.int
 .i64 0),(.str []),(.int .i64 0),(.int .i64 0),(.int .i64 0),(.int .i64 0),(.int .i64 0),(.str []),(.int .i64 0),(.int .i64 0),(.int .i64 0),(.int .i64 0),(.int .i64 0),
 (.str []),(.int .i64 0),(.int .i64 0),(.int .i64 0),(.int .i64 0),(.int .i64 0),(.str []),(.int .i64 0),(.int .i64 0),(.int .i64 0),(.int .i64 0),(.int .i64 0),(.str []),
 (.int .i64 0),(.int .i64 0),(.int .i64 0),(.int .i64 0),(.int .i64 0),(.str []),(.int .i64 0),(.int .i64 0),(.int .i64 0),(.int .i64 0),(.int .i64 0),(.str []),(.int .i64
 0),(.int .i64 0),(.int .i64 0),(.int .i64 0),(.int .i64 0),(.str []),(.int .i64 0),(.int .i64 0),(.int .i64 0),(.int .i64 0),(.int .i64 0),(.str []),(.int .i64 0),(.int
 .i64 0),(.int .i64 0),(.int .i64 0),(.int .i64 0),(.str []),(.int .i64 0),(.int .i64 0),(.int .i64 0),(.int .i64 0),(.int .i64 0),(.str []),(.int .i64 0),(.int .i64 0),
 (.int .i64 0),(.int .i64 0),(.int .i64 0)]
def chaselaw14_LogicKnown:MFun:=⟨0,[.t 0],(.seq (.reg [p 0 (.mov (.k (.bool false)))]) (.seq (.seq (.reg [w 15 (.call (.k (.fn 300 [] [])) []),p 16 (.un .not 15)]) (.cond 16
 (.seq (.reg [p 0 (.mov (.k (.bool false)))]) .ret) .skip)) (.seq (.reg [n 18 (.mkSl 5 1 1 [(.int .u8 0)] (.k (.int .i64 101)) (.k (.int .i64 101))),r 19 (.b2s 18),n 20 (.buildSl 9
 8 [(.str []),(.str []),(.str []),(.str []),(.str []),(.str []),(.str []),(.str [])] [(0,1,(.k (.str [97]))),(1,1,(.k (.str [57,57,57,57,57,57,57,57,57,57,57]))),
 (2,1,(.k (.str [45,50,46,53,101,49]))),(3,1,(.k (.str [97,98,99]))),(4,1,(.k (.str [49,50,51,52,53,54,55,56]))),(5,1,(.k (.str [97,98,99,100]))),(6,1,
 19),(7,1,(.k (.str [49,46,53])))]),w 21 (.call (.k (.fn 306 [] [])) [20]),p 17 (.mov 21),p 22 (.extr 0 17),p 23 (.extr 1 17),p 1 (.mov 22),p 2 (.mov 23)]) (.seq (.keep [1,
 2]) (.seq (.reg [p 24 (.mov 2),p 25 (.iaddrS 7 24 (.k (.int .i64 0))),r 26 (.load (some 7) 25),p 27 (.build zOb [(0,1,(.k (.int .i64 5))),(3,1,(.k (.str [97])))]),p 28 (.build
 zOb [(0,1,(.k (.int .i64 1)))]),n 3 (.alloc 451 true zOb),n 4 (.alloc 451 true zOb),n 5 (.alloc 451 true zOb),w0 (.store 7 3 26),w0 (.store 7 4 27),w0 (.store 7 5 28)]) (.seq
 (.keep [1,2,3,4,5]) (.seq (.reg [p 29 (.mov 2),p 30 (.iaddrS 7 29 (.k (.int .i64 3))),r 31 (.load (some 7) 30),n 6 (.alloc 451 true zOb),w0 (.store 7 6 31)]) (.seq (.reg [p
 32 (.faddr 1 6),w0 (.store 1 32 (.k (.bool true)))]) (.seq (.regd [.op 2 (r 35 (.load (some 7) 3)),.op 3 (r 36 (.load (some 7) 4)),.op 1 (w 34 (.call (.k (.fn 302 [] [])) [(.k (.bool
 true))])),.re 2,.re 3,.op 0 (p 33 (.mov 1)),.op 4 (n 37 (.buildSl 451 2 [(.int .i64 0),(.bool false),(.int .i64 0),(.str []),(.int .i64 0),(.int .i64 0),(.int .i64 0),(.int
 .i64 0),(.bool false),(.int .i64 0),(.str []),(.int .i64 0),(.int .i64 0),(.int .i64 0)] [(0,7,35),(7,7,36)])),.op 5 (w 38 (.call (.k (.fn 312 [] [])) [33,(.k (.str [101,
 113])),34,37])),.op 6 (p 39 (.mov 38)),.op 8 (wg 41 39 true (.call (.k (.fn 302 [] [])) [(.k (.bool false))])),.op 9 (wg 42 39 true (.call (.k (.fn 301 [] [])) [(.k (.int .i64
 1))])),.op 10 (wg 43 39 true (.call (.k (.fn 302 [] [])) [(.k (.bool true))])),.op 7 (pg 40 39 true (.mov 1)),.op 11 (ng 44 39 true (.buildSl 451 2 [(.int .i64 0),(.bool false),
 (.int .i64 0),(.str []),(.int .i64 0),(.int .i64 0),(.int .i64 0),(.int .i64 0),(.bool false),(.int .i64 0),(.str []),(.int .i64 0),(.int .i64 0),(.int .i64 0)] [(0,7,42),
 (7,7,43)])),.op 12 (wg 45 39 true (.call (.k (.fn 312 [] [])) [40,(.k (.str [101,113])),41,44])),.op 13 (p 46 (.pick 39 45 (.k (.bool false)))),.op 14 (p 47 (.mov 46)),.op
 16 (wg 49 47 true (.call (.k (.fn 302 [] [])) [(.k (.bool true))])),.op 17 (wg 50 47 true (.call (.k (.fn 301 [] [])) [(.k (.int .i64 2))])),.op 18 (wg 51 47 true (.call (.k (.fn
 307 [] [])) [(.k (.int .i64 98304))])),.op 15 (pg 48 47 true (.mov 1)),.op 19 (ng 52 47 true (.buildSl 451 2 [(.int .i64 0),(.bool false),(.int .i64 0),(.str []),(.int .i64 0),
 (.int .i64 0),(.int .i64 0),(.int .i64 0),(.bool false),(.int .i64 0),(.str []),(.int .i64 0),(.int .i64 0),(.int .i64 0)] [(0,7,50),(7,7,51)])),.op 20 (wg 53 47 true
 (.call (.k (.fn 312 [] [])) [48,(.k (.str [103,101])),49,52])),.op 21 (p 54 (.pick 47 53 (.k (.bool false)))),.op 22 (p 55 (.mov 54)),.op 25 (rg 58 55 true (.load (some 7) 3)),
 .op 26 (rg 59 55 true (.load (some 7) 3)),.op 24 (wg 57 55 true (.call (.k (.fn 302 [] [])) [(.k (.bool true))])),.re 25,.re 26,.op 23 (pg 56 55 true (.mov 1)),.op 27 (ng 60 55
 true (.buildSl 451 2 [(.int .i64 0),(.bool false),(.int .i64 0),(.str []),(.int .i64 0),(.int .i64 0),(.int .i64 0),(.int .i64 0),(.bool false),(.int .i64 0),(.str []),(.int
 .i64 0),(.int .i64 0),(.int .i64 0)] [(0,7,58),(7,7,59)])),.op 28 (wg 61 55 true (.call (.k (.fn 312 [] [])) [56,(.k (.str [108,101])),57,60])),.op 29 (p 62 (.pick 55 61
 (.k (.bool false)))),.op 30 (p 63 (.mov 62)),.op 33 (rg 66 63 true (.load (some 7) 3)),.op 34 (pg 67 63 true (.mov 2)),.op 35 (pg 68 63 true (.iaddrS 7 67 (.k (.int .i64 3)))),
 .op 36 (rg 69 63 true (.load (some 7) 68)),.op 32 (wg 65 63 true (.call (.k (.fn 302 [] [])) [(.k (.bool false))])),.re 33,.re 36,.op 31 (pg 64 63 true (.mov 1)),.op 37 (ng 70
 63 true (.buildSl 451 2 [(.int .i64 0),(.bool false),(.int .i64 0),(.str []),(.int .i64 0),(.int .i64 0),(.int .i64 0),(.int .i64 0),(.bool false),(.int .i64 0),(.str []),
 (.int .i64 0),(.int .i64 0),(.int .i64 0)] [(0,7,66),(7,7,69)])),.op 38 (wg 71 63 true (.call (.k (.fn 312 [] [])) [64,(.k (.str [103,116])),65,70])),.op 39 (p 72 (.pick
 63 71 (.k (.bool false)))),.op 40 (p 73 (.mov 72)),.op 42 (wg 75 73 true (.call (.k (.fn 302 [] [])) [(.k (.bool true))])),.op 43 (wg 76 73 true (.call (.k (.fn 301 [] [])) [(.k
 (.int .i64 1))])),.op 44 (wg 77 73 true (.call (.k (.fn 301 [] [])) [(.k (.int .i64 2))])),.op 41 (pg 74 73 true (.mov 1)),.op 45 (ng 78 73 true (.buildSl 451 2 [(.int .i64 0),(.bool
 false),(.int .i64 0),(.str []),(.int .i64 0),(.int .i64 0),(.int .i64 0),(.int .i64 0),(.bool false),(.int .i64 0),(.str []),(.int .i64 0),(.int .i64 0),(.int .i64 0)] [(0,
 7,76),(7,7,77)])),.op 46 (wg 79 73 true (.call (.k (.fn 312 [] [])) [74,(.k (.str [110,101])),75,78])),.op 47 (p 80 (.pick 73 79 (.k (.bool false)))),.op 48 (p 7 (.mov 80))])
 (.seq (.keep [1,2,3,4,5,6,7]) (.seq (.reg [p 81 (.mov 1),w 82 (.call (.k (.fn 302 [] [])) [(.k (.bool true))]),w 83 (.call (.k (.fn 302 [] [])) [(.k (.bool true))]),w 84 (.call
 (.k (.fn 302 [] [])) [(.k (.bool false))]),n 85 (.buildSl 451 2 [(.int .i64 0),(.bool false),(.int .i64 0),(.str []),(.int .i64 0),(.int .i64 0),(.int .i64 0),(.int .i64 0),
 (.bool false),(.int .i64 0),(.str []),(.int .i64 0),(.int .i64 0),(.int .i64 0)] [(0,7,83),(7,7,84)]),w 86 (.call (.k (.fn 312 [] [])) [81,(.k (.str [111,114])),82,85]),
 p 87 (.mov 86),pg 88 87 true (.mov 1),wg 89 87 true (.call (.k (.fn 301 [] [])) [(.k (.int .i64 15))]),wg 90 87 true (.call (.k (.fn 301 [] [])) [(.k (.int .i64 (-1)))]),wg 91 87
 true (.call (.k (.fn 301 [] [])) [(.k (.int .i64 (-28)))]),ng 92 87 true (.buildSl 451 2 [(.int .i64 0),(.bool false),(.int .i64 0),(.str []),(.int .i64 0),(.int .i64 0),(.int
 .i64 0),(.int .i64 0),(.bool false),(.int .i64 0),(.str []),(.int .i64 0),(.int .i64 0),(.int .i64 0)] [(0,7,90),(7,7,91)]),wg 93 87 true (.call (.k (.fn 312 [] [])) [88,
 (.k (.str [98,105,116,115,104,105,102,116])),89,92]),p 94 (.pick 87 93 (.k (.bool false))),p 95 (.mov 94),pg 96 95 true (.mov 1),wg 97 95 true (.call (.k (.fn 301 [] []))
 [(.k (.int .i64 (-2147483648)))]),wg 98 95 true (.call (.k (.fn 301 [] [])) [(.k (.int .i64 1))]),wg 99 95 true (.call (.k (.fn 301 [] [])) [(.k (.int .i64 31))]),ng 100 95 true
 (.buildSl 451 2 [(.int .i64 0),(.bool false),(.int .i64 0),(.str []),(.int .i64 0),(.int .i64 0),(.int .i64 0),(.int .i64 0),(.bool false),(.int .i64 0),(.str []),(.int .i64
 0),(.int .i64 0),(.int .i64 0)] [(0,7,98),(7,7,99)]),wg 101 95 true (.call (.k (.fn 312 [] [])) [96,(.k (.str [98,105,116,115,104,105,102,116])),97,100]),p 102 (.pick
 95 101 (.k (.bool false))),p 103 (.mov 102),pg 104 103 true (.mov 1),wg 105 103 true (.call (.k (.fn 301 [] [])) [(.k (.int .i64 0))]),wg 106 103 true (.call (.k (.fn 301 [] []))
 [(.k (.int .i64 1))]),wg 107 103 true (.call (.k (.fn 301 [] [])) [(.k (.int .i64 32))]),ng 108 103 true (.buildSl 451 2 [(.int .i64 0),(.bool false),(.int .i64 0),(.str []),(.int
 .i64 0),(.int .i64 0),(.int .i64 0),(.int .i64 0),(.bool false),(.int .i64 0),(.str []),(.int .i64 0),(.int .i64 0),(.int .i64 0)] [(0,7,106),(7,7,107)]),wg 109 103 true
 (.call (.k (.fn 312 [] [])) [104,(.k (.str [98,105,116,115,104,105,102,116])),105,108]),p 110 (.pick 103 109 (.k (.bool false))),p 111 (.mov 110),pg 112 111 true (.mov
 1),wg 113 111 true (.call (.k (.fn 301 [] [])) [(.k (.int .i64 0))]),wg 114 111 true (.call (.k (.fn 301 [] [])) [(.k (.int .i64 (-1)))]),wg 115 111 true (.call (.k (.fn 301 [] []))
 [(.k (.int .i64 (-2147483648)))]),ng 116 111 true (.buildSl 451 2 [(.int .i64 0),(.bool false),(.int .i64 0),(.str []),(.int .i64 0),(.int .i64 0),(.int .i64 0),(.int .i64 0),
 (.bool false),(.int .i64 0),(.str []),(.int .i64 0),(.int .i64 0),(.int .i64 0)] [(0,7,114),(7,7,115)]),wg 117 111 true (.call (.k (.fn 312 [] [])) [112,(.k (.str [98,105,
 116,115,104,105,102,116])),113,116]),p 118 (.pick 111 117 (.k (.bool false))),p 119 (.mov 118),pg 120 119 true (.mov 1),wg 121 119 true (.call (.k (.fn 301 [] [])) [(.k (.int
 .i64 (-1)))]),wg 122 119 true (.call (.k (.fn 301 [] [])) [(.k (.int .i64 5))]),wg 123 119 true (.call (.k (.fn 301 [] [])) [(.k (.int .i64 (-6)))]),ng 124 119 true (.buildSl 451
 2 [(.int .i64 0),(.bool false),(.int .i64 0),(.str []),(.int .i64 0),(.int .i64 0),(.int .i64 0),(.int .i64 0),(.bool false),(.int .i64 0),(.str []),(.int .i64 0),(.int
 .i64 0),(.int .i64 0)] [(0,7,122),(7,7,123)]),wg 125 119 true (.call (.k (.fn 312 [] [])) [120,(.k (.str [120,111,114])),121,124]),p 126 (.pick 119 125 (.k (.bool false))),
 p 127 (.mov 126),pg 128 127 true (.mov 1),wg 129 127 true (.call (.k (.fn 302 [] [])) [(.k (.bool false))]),wg 130 127 true (.call (.k (.fn 302 [] [])) [(.k (.bool true))]),ng 131
 127 true (.buildSl 451 1 zOb [(0,7,130)]),wg 132 127 true (.call (.k (.fn 312 [] [])) [128,(.k (.str [110,111,116])),129,131]),p 133 (.pick 127 132 (.k (.bool false))),p 8
 (.mov 133)]) (.seq (.keep [1,2,3,4,5,6,7,8]) (.seq (.regd [.op 2 (p 136 (.mov 2)),.op 3 (p 137 (.iaddrS 7 136 (.k (.int .i64 2)))),.op 4 (r 138 (.load (some 7) 137)),.op 1
 (w 135 (.call (.k (.fn 307 [] [])) [(.k (.int .i64 (-1638400)))])),.re 4,.op 0 (p 134 (.mov 1)),.op 5 (n 139 (.buildSl 451 1 zOb [(0,7,138)])),.op 6 (w 140 (.call (.k (.fn 312
 [] [])) [134,(.k (.str [99,118,114])),135,139])),.op 7 (p 141 (.mov 140)),.op 10 (pg 144 141 true (.mov 2)),.op 11 (pg 145 141 true (.iaddrS 7 144 (.k (.int .i64 2)))),.op
 12 (rg 146 141 true (.load (some 7) 145)),.op 9 (wg 143 141 true (.call (.k (.fn 301 [] [])) [(.k (.int .i64 (-25)))])),.re 12,.op 8 (pg 142 141 true (.mov 1)),.op 13 (ng 147 141
 true (.buildSl 451 1 zOb [(0,7,146)])),.op 14 (wg 148 141 true (.call (.k (.fn 312 [] [])) [142,(.k (.str [99,118,105])),143,147])),.op 15 (p 149 (.pick 141 148 (.k (.bool
 false)))),.op 16 (p 150 (.mov 149)),.op 19 (pg 153 150 true (.mov 2)),.op 20 (pg 154 150 true (.iaddrS 7 153 (.k (.int .i64 7)))),.op 21 (rg 155 150 true (.load (some 7) 154)),
 .op 18 (wg 152 150 true (.call (.k (.fn 301 [] [])) [(.k (.int .i64 1))])),.re 21,.op 17 (pg 151 150 true (.mov 1)),.op 22 (ng 156 150 true (.buildSl 451 1 zOb [(0,7,155)])),.op
 23 (wg 157 150 true (.call (.k (.fn 312 [] [])) [151,(.k (.str [99,118,105])),152,156])),.op 24 (p 158 (.pick 150 157 (.k (.bool false)))),.op 25 (p 159 (.mov 158)),.op 27 (wg
 161 159 true (.call (.k (.fn 301 [] [])) [(.k (.int .i64 (-2)))])),.op 28 (wg 162 159 true (.call (.k (.fn 307 [] [])) [(.k (.int .i64 (-180224)))])),.op 26 (pg 160 159 true (.mov
 1)),.op 29 (ng 163 159 true (.buildSl 451 1 zOb [(0,7,162)])),.op 30 (wg 164 159 true (.call (.k (.fn 312 [] [])) [160,(.k (.str [99,118,105])),161,163])),.op 31 (p 165 (.pick
 159 164 (.k (.bool false)))),.op 32 (p 166 (.mov 165)),.op 35 (rg 169 166 true (.load (some 7) 6)),.op 33 (pg 167 166 true (.mov 1)),.op 34 (pg 168 166 true (.build zOb [(0,1,
 (.k (.int .i64 5))),(1,1,(.k (.bool true))),(3,1,(.k (.str [97,98,99])))])),.op 36 (ng 170 166 true (.buildSl 451 1 zOb [(0,7,169)])),.op 37 (wg 171 166 true (.call (.k
 (.fn 312 [] [])) [167,(.k (.str [99,118,110])),168,170])),.op 38 (p 172 (.pick 166 171 (.k (.bool false)))),.op 39 (p 173 (.mov 172)),.op 40 (pg 174 173 true (.mov 1)),.op
 41 (pg 175 173 true (.build zOb [])),.op 42 (wg 176 173 true (.call (.k (.fn 312 [] [])) [174,(.k (.str [110,117,108,108])),175,(.k .nilslice)])),.op 43 (p 177 (.pick 173 176
 (.k (.bool false)))),.op 44 (p 178 (.mov 177)),.op 46 (wg 180 178 true (.call (.k (.fn 302 [] [])) [(.k (.bool true))])),.op 45 (pg 179 178 true (.mov 1)),.op 47 (wg 181 178 true
 (.call (.k (.fn 312 [] [])) [179,(.k (.str [116,114,117,101])),180,(.k .nilslice)])),.op 48 (p 182 (.pick 178 181 (.k (.bool false)))),.op 49 (p 183 (.mov 182)),.op 51 (wg
 185 183 true (.call (.k (.fn 302 [] [])) [(.k (.bool false))])),.op 50 (pg 184 183 true (.mov 1)),.op 52 (wg 186 183 true (.call (.k (.fn 312 [] [])) [184,(.k (.str [102,97,108,
 115,101])),185,(.k .nilslice)])),.op 53 (p 187 (.pick 183 186 (.k (.bool false)))),.op 54 (p 9 (.mov 187))]) (.seq (.keep [1,2,3,4,5,7,8,9]) (.seq (.regd [.op 2 (p 190 (.mov
 2)),.op 3 (p 191 (.iaddrS 7 190 (.k (.int .i64 5)))),.op 4 (r 192 (.load (some 7) 191)),.op 1 (w 189 (.call (.k (.fn 307 [] [])) [(.k (.int .i64 32768))])),.re 4,.op 0 (p 188 (.mov
 1)),.op 5 (n 193 (.buildSl 451 2 [(.int .i64 0),(.bool false),(.int .i64 0),(.str []),(.int .i64 0),(.int .i64 0),(.int .i64 0),(.int .i64 0),(.bool false),(.int .i64 0),
 (.str []),(.int .i64 0),(.int .i64 0),(.int .i64 0)] [(0,7,189),(7,7,192)])),.op 6 (w 194 (.call (.k (.fn 313 [] [])) [188,(.k (.str [99,118,115])),(.k (.str [48,46,53])),
 193])),.op 7 (p 195 (.mov 194)),.op 11 (pg 199 195 true (.mov 2)),.op 12 (pg 200 195 true (.iaddrS 7 199 (.k (.int .i64 4)))),.op 13 (rg 201 195 true (.load (some 7) 200)),.op
 9 (wg 197 195 true (.call (.k (.fn 301 [] [])) [(.k (.int .i64 (-1)))])),.re 13,.op 10 (wg 198 195 true (.call (.k (.fn 301 [] [])) [(.k (.int .i64 16))])),.re 13,.op 8 (pg 196
 195 true (.mov 1)),.op 14 (ng 202 195 true (.buildSl 451 3 [(.int .i64 0),(.bool false),(.int .i64 0),(.str []),(.int .i64 0),(.int .i64 0),(.int .i64 0),(.int .i64 0),(.bool
 false),(.int .i64 0),(.str []),(.int .i64 0),(.int .i64 0),(.int .i64 0),(.int .i64 0),(.bool false),(.int .i64 0),(.str []),(.int .i64 0),(.int .i64 0),(.int .i64 0)] [(0,
 7,197),(7,7,198),(14,7,201)])),.op 15 (wg 203 195 true (.call (.k (.fn 313 [] [])) [196,(.k (.str [99,118,114,115])),(.k (.str [70,70,70,70,70,70,70,70])),202])),
 .op 16 (p 204 (.pick 195 203 (.k (.bool false)))),.op 17 (p 205 (.mov 204)),.op 21 (pg 209 205 true (.mov 2)),.op 22 (pg 210 205 true (.iaddrS 7 209 (.k (.int .i64 5)))),.op 23
 (rg 211 205 true (.load (some 7) 210)),.op 19 (wg 207 205 true (.call (.k (.fn 307 [] [])) [(.k (.int .i64 180224))])),.re 23,.op 20 (wg 208 205 true (.call (.k (.fn 301 [] []))
 [(.k (.int .i64 10))])),.re 23,.op 18 (pg 206 205 true (.mov 1)),.op 24 (ng 212 205 true (.buildSl 451 3 [(.int .i64 0),(.bool false),(.int .i64 0),(.str []),(.int .i64 0),(.int
 .i64 0),(.int .i64 0),(.int .i64 0),(.bool false),(.int .i64 0),(.str []),(.int .i64 0),(.int .i64 0),(.int .i64 0),(.int .i64 0),(.bool false),(.int .i64 0),(.str []),
 (.int .i64 0),(.int .i64 0),(.int .i64 0)] [(0,7,207),(7,7,208),(14,7,211)])),.op 25 (wg 213 205 true (.call (.k (.fn 313 [] [])) [206,(.k (.str [99,118,114,115])),(.k
 (.str [50,46,55,53])),212])),.op 26 (p 214 (.pick 205 213 (.k (.bool false)))),.op 27 (p 215 (.mov 214)),.op 31 (pg 219 215 true (.mov 2)),.op 32 (pg 220 215 true (.iaddrS 7
 219 (.k (.int .i64 5)))),.op 33 (rg 221 215 true (.load (some 7) 220)),.op 29 (wg 217 215 true (.call (.k (.fn 307 [] [])) [(.k (.int .i64 180224))])),.re 33,.op 30 (wg 218 215
 true (.call (.k (.fn 301 [] [])) [(.k (.int .i64 16))])),.re 33,.op 28 (pg 216 215 true (.mov 1)),.op 34 (ng 222 215 true (.buildSl 451 3 [(.int .i64 0),(.bool false),(.int .i64
 0),(.str []),(.int .i64 0),(.int .i64 0),(.int .i64 0),(.int .i64 0),(.bool false),(.int .i64 0),(.str []),(.int .i64 0),(.int .i64 0),(.int .i64 0),(.int .i64 0),(.bool
 false),(.int .i64 0),(.str []),(.int .i64 0),(.int .i64 0),(.int .i64 0)] [(0,7,217),(7,7,218),(14,7,221)])),.op 35 (wg 223 215 true (.call (.k (.fn 313 [] [])) [216,
 (.k (.str [99,118,114,115])),(.k (.str [50])),222])),.op 36 (p 224 (.pick 215 223 (.k (.bool false)))),.op 37 (p 225 (.mov 224)),.op 39 (rg 227 225 true (.load (some 7) 4)),
 .op 40 (rg 228 225 true (.load (some 7) 3)),.op 38 (pg 226 225 true (.mov 1)),.op 41 (ng 229 225 true (.buildSl 451 2 [(.int .i64 0),(.bool false),(.int .i64 0),(.str []),(.int
 .i64 0),(.int .i64 0),(.int .i64 0),(.int .i64 0),(.bool false),(.int .i64 0),(.str []),(.int .i64 0),(.int .i64 0),(.int .i64 0)] [(0,7,227),(7,7,228)])),.op 42 (wg
 230 225 true (.call (.k (.fn 313 [] [])) [226,(.k (.str [99,118,115])),(.k (.str [97])),229])),.op 43 (p 231 (.pick 225 230 (.k (.bool false)))),.op 44 (p 232 (.mov 231)),.op
 46 (pg 234 232 true (.mov 2)),.op 47 (pg 235 232 true (.iaddrS 7 234 (.k (.int .i64 3)))),.op 48 (rg 236 232 true (.load (some 7) 235)),.op 49 (pg 237 232 true (.mov 2)),.op 50
 (pg 238 232 true (.iaddrS 7 237 (.k (.int .i64 3)))),.op 51 (rg 239 232 true (.load (some 7) 238)),.op 45 (pg 233 232 true (.mov 1)),.op 52 (ng 240 232 true (.buildSl 451 2 [(.int
 .i64 0),(.bool false),(.int .i64 0),(.str []),(.int .i64 0),(.int .i64 0),(.int .i64 0),(.int .i64 0),(.bool false),(.int .i64 0),(.str []),(.int .i64 0),(.int .i64 0),
 (.int .i64 0)] [(0,7,236),(7,7,239)])),.op 53 (wg 241 232 true (.call (.k (.fn 313 [] [])) [233,(.k (.str [99,118,115])),(.k (.str [97,98,99])),240])),.op 54 (p 242 (.pick
 232 241 (.k (.bool false)))),.op 55 (p 10 (.mov 242))]) (.seq (.keep [1,2,3,4,5,7,8,9,10]) (.seq (.regd [.op 1 (w 244 (.call (.k (.fn 301 [] [])) [(.k (.int .i64 1))])),.op
 2 (w 245 (.call (.k (.fn 302 [] [])) [(.k (.bool true))])),.op 0 (p 243 (.mov 1)),.op 3 (n 246 (.buildSl 451 2 [(.int .i64 0),(.bool false),(.int .i64 0),(.str []),(.int .i64
 0),(.int .i64 0),(.int .i64 0),(.int .i64 0),(.bool false),(.int .i64 0),(.str []),(.int .i64 0),(.int .i64 0),(.int .i64 0)] [(0,7,244),(7,7,245)])),.op 4 (w 247 (.call
 (.k (.fn 314 [] [])) [243,(.k (.str [97,110,100])),(.k (.int .i64 22)),246])),.op 5 (p 248 (.mov 247)),.op 7 (wg 250 248 true (.call (.k (.fn 307 [] [])) [(.k (.int .i64 65536))])),
 .op 6 (pg 249 248 true (.mov 1)),.op 8 (ng 251 248 true (.buildSl 451 1 zOb [(0,7,250)])),.op 9 (wg 252 248 true (.call (.k (.fn 314 [] [])) [249,(.k (.str [110,111,116])),(.k
 (.int .i64 22)),251])),.op 10 (p 253 (.pick 248 252 (.k (.bool false)))),.op 11 (p 254 (.mov 253)),.op 14 (rg 257 254 true (.load (some 7) 3)),.op 13 (wg 256 254 true (.call (.k
 (.fn 301 [] [])) [(.k (.int .i64 1))])),.re 14,.op 12 (pg 255 254 true (.mov 1)),.op 15 (ng 258 254 true (.buildSl 451 2 [(.int .i64 0),(.bool false),(.int .i64 0),(.str []),
 (.int .i64 0),(.int .i64 0),(.int .i64 0),(.int .i64 0),(.bool false),(.int .i64 0),(.str []),(.int .i64 0),(.int .i64 0),(.int .i64 0)] [(0,7,256),(7,7,257)])),.op 16
 (wg 259 254 true (.call (.k (.fn 314 [] [])) [255,(.k (.str [108,116])),(.k (.int .i64 22)),258])),.op 17 (p 260 (.pick 254 259 (.k (.bool false)))),.op 18 (p 261 (.mov 260)),
 .op 20 (rg 263 261 true (.load (some 7) 4)),.op 21 (rg 264 261 true (.load (some 7) 4)),.op 19 (pg 262 261 true (.mov 1)),.op 22 (ng 265 261 true (.buildSl 451 2 [(.int .i64 0),
 (.bool false),(.int .i64 0),(.str []),(.int .i64 0),(.int .i64 0),(.int .i64 0),(.int .i64 0),(.bool false),(.int .i64 0),(.str []),(.int .i64 0),(.int .i64 0),(.int .i64
 0)] [(0,7,263),(7,7,264)])),.op 23 (wg 266 261 true (.call (.k (.fn 314 [] [])) [262,(.k (.str [108,116])),(.k (.int .i64 22)),265])),.op 24 (p 267 (.pick 261 266 (.k (.bool
 false)))),.op 25 (p 268 (.mov 267)),.op 27 (pg 270 268 true (.mov 2)),.op 28 (pg 271 268 true (.iaddrS 7 270 (.k (.int .i64 1)))),.op 29 (rg 272 268 true (.load (some 7) 271)),
 .op 26 (pg 269 268 true (.mov 1)),.op 30 (ng 273 268 true (.buildSl 451 1 zOb [(0,7,272)])),.op 31 (wg 274 268 true (.call (.k (.fn 314 [] [])) [269,(.k (.str [99,118,105])),
 (.k (.int .i64 23)),273])),.op 32 (p 275 (.pick 268 274 (.k (.bool false)))),.op 33 (p 276 (.mov 275)),.op 35 (pg 278 276 true (.mov 2)),.op 36 (pg 279 276 true (.iaddrS 7 278
 (.k (.int .i64 1)))),.op 37 (rg 280 276 true (.load (some 7) 279)),.op 34 (pg 277 276 true (.mov 1)),.op 38 (ng 281 276 true (.buildSl 451 1 zOb [(0,7,280)])),.op 39 (wg 282 276
 true (.call (.k (.fn 314 [] [])) [277,(.k (.str [99,118,114])),(.k (.int .i64 23)),281])),.op 40 (p 283 (.pick 276 282 (.k (.bool false)))),.op 41 (p 284 (.mov 283)),.op 43
 (wg 286 284 true (.call (.k (.fn 301 [] [])) [(.k (.int .i64 40000))])),.op 42 (pg 285 284 true (.mov 1)),.op 44 (ng 287 284 true (.buildSl 451 1 zOb [(0,7,286)])),.op 45 (wg 288
 284 true (.call (.k (.fn 314 [] [])) [285,(.k (.str [99,118,114])),(.k (.int .i64 25)),287])),.op 46 (p 289 (.pick 284 288 (.k (.bool false)))),.op 47 (p 290 (.mov 289)),.op
 49 (rg 292 290 true (.load (some 7) 5)),.op 50 (pg 293 290 true (.mov 2)),.op 51 (pg 294 290 true (.iaddrS 7 293 (.k (.int .i64 3)))),.op 52 (rg 295 290 true (.load (some 7) 294)),
 .op 48 (pg 291 290 true (.mov 1)),.op 53 (ng 296 290 true (.buildSl 451 2 [(.int .i64 0),(.bool false),(.int .i64 0),(.str []),(.int .i64 0),(.int .i64 0),(.int .i64 0),(.int
 .i64 0),(.bool false),(.int .i64 0),(.str []),(.int .i64 0),(.int .i64 0),(.int .i64 0)] [(0,7,292),(7,7,295)])),.op 54 (wg 297 290 true (.call (.k (.fn 314 [] [])) [291,
 (.k (.str [99,118,115])),(.k (.int .i64 23)),296])),.op 55 (p 298 (.pick 290 297 (.k (.bool false)))),.op 56 (p 299 (.mov 298)),.op 58 (pg 301 299 true (.mov 2)),.op 59 (pg
 302 299 true (.iaddrS 7 301 (.k (.int .i64 3)))),.op 60 (rg 303 299 true (.load (some 7) 302)),.op 61 (rg 304 299 true (.load (some 7) 4)),.op 57 (pg 300 299 true (.mov 1)),.op
 62 (ng 305 299 true (.buildSl 451 2 [(.int .i64 0),(.bool false),(.int .i64 0),(.str []),(.int .i64 0),(.int .i64 0),(.int .i64 0),(.int .i64 0),(.bool false),(.int .i64 0),
 (.str []),(.int .i64 0),(.int .i64 0),(.int .i64 0)] [(0,7,303),(7,7,304)])),.op 63 (wg 306 299 true (.call (.k (.fn 314 [] [])) [300,(.k (.str [99,118,115])),(.k (.int
 .i64 22)),305])),.op 64 (p 307 (.pick 299 306 (.k (.bool false)))),.op 65 (p 308 (.mov 307)),.op 69 (pg 312 308 true (.mov 2)),.op 70 (pg 313 308 true (.iaddrS 7 312 (.k (.int
 .i64 3)))),.op 71 (rg 314 308 true (.load (some 7) 313)),.op 67 (wg 310 308 true (.call (.k (.fn 301 [] [])) [(.k (.int .i64 1))])),.re 71,.op 68 (wg 311 308 true (.call (.k (.fn
 301 [] [])) [(.k (.int .i64 37))])),.re 71,.op 66 (pg 309 308 true (.mov 1)),.op 72 (ng 315 308 true (.buildSl 451 3 [(.int .i64 0),(.bool false),(.int .i64 0),(.str []),(.int
 .i64 0),(.int .i64 0),(.int .i64 0),(.int .i64 0),(.bool false),(.int .i64 0),(.str []),(.int .i64 0),(.int .i64 0),(.int .i64 0),(.int .i64 0),(.bool false),(.int .i64
 0),(.str []),(.int .i64 0),(.int .i64 0),(.int .i64 0)] [(0,7,310),(7,7,311),(14,7,314)])),.op 73 (wg 316 308 true (.call (.k (.fn 314 [] [])) [309,(.k (.str [99,118,
 114,115])),(.k (.int .i64 23)),315])),.op 74 (p 317 (.pick 308 316 (.k (.bool false)))),.op 75 (p 318 (.mov 317)),.op 79 (pg 322 318 true (.mov 2)),.op 80 (pg 323 318 true (.iaddrS
 7 322 (.k (.int .i64 3)))),.op 81 (rg 324 318 true (.load (some 7) 323)),.op 77 (wg 320 318 true (.call (.k (.fn 301 [] [])) [(.k (.int .i64 8))])),.re 81,.op 78 (wg 321 318 true
 (.call (.k (.fn 301 [] [])) [(.k (.int .i64 2))])),.re 81,.op 76 (pg 319 318 true (.mov 1)),.op 82 (ng 325 318 true (.buildSl 451 3 [(.int .i64 0),(.bool false),(.int .i64 0),
 (.str []),(.int .i64 0),(.int .i64 0),(.int .i64 0),(.int .i64 0),(.bool false),(.int .i64 0),(.str []),(.int .i64 0),(.int .i64 0),(.int .i64 0),(.int .i64 0),(.bool false),
 (.int .i64 0),(.str []),(.int .i64 0),(.int .i64 0),(.int .i64 0)] [(0,7,320),(7,7,321),(14,7,324)])),.op 83 (wg 326 318 true (.call (.k (.fn 314 [] [])) [319,(.k (.str
 [99,118,114,115])),(.k (.int .i64 23)),325])),.op 84 (p 327 (.pick 318 326 (.k (.bool false)))),.op 85 (p 328 (.mov 327)),.op 89 (pg 332 328 true (.mov 2)),.op 90 (pg 333 328
 true (.iaddrS 7 332 (.k (.int .i64 3)))),.op 91 (rg 334 328 true (.load (some 7) 333)),.op 87 (wg 330 328 true (.call (.k (.fn 301 [] [])) [(.k (.int .i64 1))])),.re 91,.op 88 (wg
 331 328 true (.call (.k (.fn 307 [] [])) [(.k (.int .i64 37))])),.re 91,.op 86 (pg 329 328 true (.mov 1)),.op 92 (ng 335 328 true (.buildSl 451 3 [(.int .i64 0),(.bool false),(.int
 .i64 0),(.str []),(.int .i64 0),(.int .i64 0),(.int .i64 0),(.int .i64 0),(.bool false),(.int .i64 0),(.str []),(.int .i64 0),(.int .i64 0),(.int .i64 0),(.int .i64 0),
 (.bool false),(.int .i64 0),(.str []),(.int .i64 0),(.int .i64 0),(.int .i64 0)] [(0,7,330),(7,7,331),(14,7,334)])),.op 93 (wg 336 328 true (.call (.k (.fn 314 [] []))
 [329,(.k (.str [99,118,114,115])),(.k (.int .i64 22)),335])),.op 94 (p 337 (.pick 328 336 (.k (.bool false)))),.op 95 (p 338 (.mov 337)),.op 98 (pg 341 338 true (.mov 2)),
 .op 99 (pg 342 338 true (.iaddrS 7 341 (.k (.int .i64 3)))),.op 100 (rg 343 338 true (.load (some 7) 342)),.op 97 (wg 340 338 true (.call (.k (.fn 301 [] [])) [(.k (.int .i64 1))])),
 .re 100,.op 96 (pg 339 338 true (.mov 1)),.op 101 (ng 344 338 true (.buildSl 451 2 [(.int .i64 0),(.bool false),(.int .i64 0),(.str []),(.int .i64 0),(.int .i64 0),(.int .i64
 0),(.int .i64 0),(.bool false),(.int .i64 0),(.str []),(.int .i64 0),(.int .i64 0),(.int .i64 0)] [(0,7,340),(7,7,343)])),.op 102 (wg 345 338 true (.call (.k (.fn 314 []
 [])) [339,(.k (.str [99,118,114,115])),(.k (.int .i64 20)),344])),.op 103 (p 346 (.pick 338 345 (.k (.bool false)))),.op 104 (p 347 (.mov 346)),.op 106 (pg 349 347 true (.mov
 2)),.op 107 (pg 350 347 true (.iaddrS 7 349 (.k (.int .i64 6)))),.op 108 (rg 351 347 true (.load (some 7) 350)),.op 105 (pg 348 347 true (.mov 1)),.op 109 (ng 352 347 true (.buildSl
 451 1 zOb [(0,7,351)])),.op 110 (wg 353 347 true (.call (.k (.fn 314 [] [])) [348,(.k (.str [99,118,110])),(.k (.int .i64 23)),352])),.op 111 (p 354 (.pick 347 353 (.k (.bool
 false)))),.op 112 (p 355 (.mov 354)),.op 114 (rg 357 355 true (.load (some 7) 4)),.op 113 (pg 356 355 true (.mov 1)),.op 115 (ng 358 355 true (.buildSl 451 1 zOb [(0,7,357)])),
 .op 116 (wg 359 355 true (.call (.k (.fn 314 [] [])) [356,(.k (.str [99,118,110])),(.k (.int .i64 22)),358])),.op 117 (p 360 (.pick 355 359 (.k (.bool false)))),.op 118 (p 361
 (.mov 360)),.op 120 (wg 363 361 true (.call (.k (.fn 301 [] [])) [(.k (.int .i64 1))])),.op 119 (pg 362 361 true (.mov 1)),.op 121 (ng 364 361 true (.buildSl 451 1 zOb [(0,7,363)])),
 .op 122 (wg 365 361 true (.call (.k (.fn 314 [] [])) [362,(.k (.str [101,113])),(.k (.int .i64 20)),364])),.op 123 (p 366 (.pick 361 365 (.k (.bool false)))),.op 124 (p 367 (.mov
 366)),.op 125 (pg 368 367 true (.mov 1)),.op 126 (wg 369 367 true (.call (.k (.fn 314 [] [])) [368,(.k (.str [116,121,112,101])),(.k (.int .i64 20)),(.k .nilslice)])),.op 127
 (p 370 (.pick 367 369 (.k (.bool false)))),.op 128 (p 371 (.mov 370)),.op 130 (wg 373 371 true (.call (.k (.fn 301 [] [])) [(.k (.int .i64 1))])),.op 131 (wg 374 371 true (.call
 (.k (.fn 301 [] [])) [(.k (.int .i64 1))])),.op 129 (pg 372 371 true (.mov 1)),.op 132 (ng 375 371 true (.buildSl 451 2 [(.int .i64 0),(.bool false),(.int .i64 0),(.str []),(.int
 .i64 0),(.int .i64 0),(.int .i64 0),(.int .i64 0),(.bool false),(.int .i64 0),(.str []),(.int .i64 0),(.int .i64 0),(.int .i64 0)] [(0,7,373),(7,7,374)])),.op 133 (wg
 376 371 true (.call (.k (.fn 314 [] [])) [372,(.k (.str [110,111,114])),(.k (.int .i64 24)),375])),.op 134 (p 377 (.pick 371 376 (.k (.bool false)))),.op 135 (p 378 (.mov 377)),
 .op 137 (wg 380 378 true (.call (.k (.fn 301 [] [])) [(.k (.int .i64 1))])),.op 138 (wg 381 378 true (.call (.k (.fn 307 [] [])) [(.k (.int .i64 1))])),.op 136 (pg 379 378 true (.mov
 1)),.op 139 (ng 382 378 true (.buildSl 451 2 [(.int .i64 0),(.bool false),(.int .i64 0),(.str []),(.int .i64 0),(.int .i64 0),(.int .i64 0),(.int .i64 0),(.bool false),(.int
 .i64 0),(.str []),(.int .i64 0),(.int .i64 0),(.int .i64 0)] [(0,7,380),(7,7,381)])),.op 140 (wg 383 378 true (.call (.k (.fn 314 [] [])) [379,(.k (.str [98,105,116,115,
 104,105,102,116])),(.k (.int .i64 22)),382])),.op 141 (p 384 (.pick 378 383 (.k (.bool false)))),.op 142 (p 11 (.mov 384))]) (.seq (.keep [1,3,5,7,8,9,10,11]) (.seq (.reg
 [n 385 (.mkSl 451 7 64 zOb (.k (.int .i64 100)) (.k (.int .i64 100))),p 386 (.build z457 [(0,1,385)]),n 12 (.alloc 457 true z457),w0 (.store 67 12 386)]) (.seq (.reg [r 388 (.load
 (some 67) 12),w 389 (.call (.k (.fn 308 [] [])) [388,(.k (.str [116,114,117,101]))]),p 387 (.mov 389),p 390 (.extr 0 387),p 391 (.extr 1 387),n 13 (.alloc 457 true z457),w0
 (.store 67 13 390),p 14 (.mov 391)]) (.seq (.keep [1,3,5,7,8,9,10,11,12,13,14]) (.seq (.reg [p 392 (.mov 7),p 393 (.mov 392),pg 394 393 true (.mov 8),p 395 (.pick 393
 394 (.k (.bool false))),p 396 (.mov 395),pg 397 396 true (.mov 9),p 398 (.pick 396 397 (.k (.bool false))),p 399 (.mov 398),pg 400 399 true (.mov 10),p 401 (.pick 399 400 (.k
 (.bool false))),p 402 (.mov 401),pg 403 402 true (.mov 11),p 404 (.pick 402 403 (.k (.bool false))),p 405 (.mov 404),pg 406 405 true (.mov 14),pg 407 405 true (.bin .eql 406 (.k
 (.int .i64 21))),p 408 (.pick 405 407 (.k (.bool false))),p 409 (.mov 408),rg 410 409 true (.load (some 67) 13),rg 411 409 true (.load (some 67) 12),wg 412 409 true (.call (.k
 (.fn 315 [] [])) [410,411]),p 413 (.pick 409 412 (.k (.bool false))),p 414 (.mov 413),pg 415 414 true (.mov 1),rg 416 414 true (.load (some 7) 5),wg 417 414 true (.call (.k (.fn
 316 [] [])) [415,416]),pg 418 414 true (.bin .eql 417 (.k (.str [45,45,110,111,115,116,114,105,110,103,118,97,108,45,45]))),p 419 (.pick 414 418 (.k (.bool false))),
 p 420 (.mov 419),rg 421 420 true (.load (some 7) 3),wg 422 420 true (.call (.k (.fn 316 [] [])) [(.k .nilslice),421]),pg 423 420 true (.bin .eql 422 (.k (.str []))),p 424 (.pick
 420 423 (.k (.bool false))),p 0 (.mov 424)]) .ret))))))))))))))))))))))⟩
def chaselaw14_wakes:MFun:=⟨0,[.t 0],(.seq (.reg [p 0 (.mov (.k (.bool false)))]) (.seq (.reg [n 4 (.buildSl 9 5 [(.str []),(.str []),(.str []),(.str []),(.str [])] [(0,1,
 (.k (.str [97,98]))),(1,1,(.k (.str [98]))),(2,1,(.k (.str [49,54,35,102,102]))),(3,1,(.k (.str [97,98,99,100,101]))),(4,1,(.k (.str [120])))]),w 5 (.call (.k
 (.fn 306 [] [])) [4]),p 3 (.mov 5),p 6 (.extr 0 3),p 7 (.extr 1 3),p 1 (.mov 6),p 2 (.mov 7)]) (.seq (.regd [.op 1 (w 9 (.call (.k (.fn 302 [] [])) [(.k (.bool true))])),.op 2
 (w 10 (.call (.k (.fn 301 [] [])) [(.k (.int .i64 1))])),.op 3 (w 11 (.call (.k (.fn 307 [] [])) [(.k (.int .i64 65536))])),.op 0 (p 8 (.mov 1)),.op 4 (n 12 (.buildSl 451 2 [(.int
 .i64 0),(.bool false),(.int .i64 0),(.str []),(.int .i64 0),(.int .i64 0),(.int .i64 0),(.int .i64 0),(.bool false),(.int .i64 0),(.str []),(.int .i64 0),(.int .i64 0),
 (.int .i64 0)] [(0,7,10),(7,7,11)])),.op 5 (w 13 (.call (.k (.fn 312 [] [])) [8,(.k (.str [101,113])),9,12])),.op 6 (p 14 (.mov 13)),.op 9 (pg 17 14 true (.mov 2)),.op
 10 (pg 18 14 true (.iaddrS 7 17 (.k (.int .i64 0)))),.op 11 (rg 19 14 true (.load (some 7) 18)),.op 12 (pg 20 14 true (.mov 2)),.op 13 (pg 21 14 true (.iaddrS 7 20 (.k (.int .i64
 1)))),.op 14 (rg 22 14 true (.load (some 7) 21)),.op 8 (wg 16 14 true (.call (.k (.fn 302 [] [])) [(.k (.bool true))])),.re 11,.re 14,.op 7 (pg 15 14 true (.mov 1)),.op 15 (ng
 23 14 true (.buildSl 451 2 [(.int .i64 0),(.bool false),(.int .i64 0),(.str []),(.int .i64 0),(.int .i64 0),(.int .i64 0),(.int .i64 0),(.bool false),(.int .i64 0),(.str []),
 (.int .i64 0),(.int .i64 0),(.int .i64 0)] [(0,7,19),(7,7,22)])),.op 16 (wg 24 14 true (.call (.k (.fn 312 [] [])) [15,(.k (.str [108,116])),16,23])),.op 17 (p 25 (.pick
 14 24 (.k (.bool false)))),.op 18 (p 26 (.mov 25)),.op 20 (wg 28 26 true (.call (.k (.fn 301 [] [])) [(.k (.int .i64 8))])),.op 21 (wg 29 26 true (.call (.k (.fn 301 [] [])) [(.k
 (.int .i64 12))])),.op 22 (wg 30 26 true (.call (.k (.fn 301 [] [])) [(.k (.int .i64 10))])),.op 19 (pg 27 26 true (.mov 1)),.op 23 (ng 31 26 true (.buildSl 451 2 [(.int .i64 0),
 (.bool false),(.int .i64 0),(.str []),(.int .i64 0),(.int .i64 0),(.int .i64 0),(.int .i64 0),(.bool false),(.int .i64 0),(.str []),(.int .i64 0),(.int .i64 0),(.int .i64
 0)] [(0,7,29),(7,7,30)])),.op 24 (wg 32 26 true (.call (.k (.fn 312 [] [])) [27,(.k (.str [97,110,100])),28,31])),.op 25 (p 33 (.pick 26 32 (.k (.bool false)))),.op 26
 (p 34 (.mov 33)),.op 28 (wg 36 34 true (.call (.k (.fn 301 [] [])) [(.k (.int .i64 (-13)))])),.op 29 (wg 37 34 true (.call (.k (.fn 301 [] [])) [(.k (.int .i64 12))])),.op 27 (pg
 35 34 true (.mov 1)),.op 30 (ng 38 34 true (.buildSl 451 1 zOb [(0,7,37)])),.op 31 (wg 39 34 true (.call (.k (.fn 312 [] [])) [35,(.k (.str [110,111,116])),36,38])),.op 32
 (p 40 (.pick 34 39 (.k (.bool false)))),.op 33 (p 41 (.mov 40)),.op 35 (wg 43 41 true (.call (.k (.fn 301 [] [])) [(.k (.int .i64 3))])),.op 36 (wg 44 41 true (.call (.k (.fn 301
 [] [])) [(.k (.int .i64 7))])),.op 37 (wg 45 41 true (.call (.k (.fn 301 [] [])) [(.k (.int .i64 (-1)))])),.op 34 (pg 42 41 true (.mov 1)),.op 38 (ng 46 41 true (.buildSl 451 2 [(.int
 .i64 0),(.bool false),(.int .i64 0),(.str []),(.int .i64 0),(.int .i64 0),(.int .i64 0),(.int .i64 0),(.bool false),(.int .i64 0),(.str []),(.int .i64 0),(.int .i64 0),
 (.int .i64 0)] [(0,7,44),(7,7,45)])),.op 39 (wg 47 41 true (.call (.k (.fn 312 [] [])) [42,(.k (.str [98,105,116,115,104,105,102,116])),43,46])),.op 40 (p 48 (.pick
 41 47 (.k (.bool false)))),.op 41 (p 49 (.mov 48)),.op 44 (pg 52 49 true (.mov 2)),.op 45 (pg 53 49 true (.iaddrS 7 52 (.k (.int .i64 2)))),.op 46 (rg 54 49 true (.load (some 7)
 53)),.op 43 (wg 51 49 true (.call (.k (.fn 301 [] [])) [(.k (.int .i64 255))])),.re 46,.op 42 (pg 50 49 true (.mov 1)),.op 47 (ng 55 49 true (.buildSl 451 1 zOb [(0,7,54)])),
 .op 48 (wg 56 49 true (.call (.k (.fn 312 [] [])) [50,(.k (.str [99,118,105])),51,55])),.op 49 (p 57 (.pick 49 56 (.k (.bool false)))),.op 50 (p 58 (.mov 57)),.op 52 (wg 60
 58 true (.call (.k (.fn 307 [] [])) [(.k (.int .i64 196608))])),.op 53 (wg 61 58 true (.call (.k (.fn 301 [] [])) [(.k (.int .i64 3))])),.op 51 (pg 59 58 true (.mov 1)),.op 54 (ng
 62 58 true (.buildSl 451 1 zOb [(0,7,61)])),.op 55 (wg 63 58 true (.call (.k (.fn 312 [] [])) [59,(.k (.str [99,118,114])),60,62])),.op 56 (p 64 (.pick 58 63 (.k (.bool false)))),
 .op 57 (p 65 (.mov 64)),.op 58 (pg 66 65 true (.mov 1)),.op 59 (pg 67 65 true (.build zOb [(0,1,(.k (.int .i64 5))),(1,1,(.k (.bool true))),(3,1,(.k (.str [110,97,109,101,
 116,121,112,101])))])),.op 60 (pg 68 65 true (.build zOb [(0,1,(.k (.int .i64 5))),(3,1,(.k (.str [120])))])),.op 61 (ng 69 65 true (.buildSl 451 1 zOb [(0,7,68)])),.op
 62 (wg 70 65 true (.call (.k (.fn 312 [] [])) [66,(.k (.str [116,121,112,101])),67,69])),.op 63 (p 71 (.pick 65 70 (.k (.bool false)))),.op 64 (p 72 (.mov 71)),.op 67 (pg 75
 72 true (.mov 2)),.op 68 (pg 76 72 true (.iaddrS 7 75 (.k (.int .i64 3)))),.op 69 (rg 77 72 true (.load (some 7) 76)),.op 66 (wg 74 72 true (.call (.k (.fn 301 [] [])) [(.k (.int
 .i64 (-12)))])),.re 69,.op 65 (pg 73 72 true (.mov 1)),.op 70 (ng 78 72 true (.buildSl 451 2 [(.int .i64 0),(.bool false),(.int .i64 0),(.str []),(.int .i64 0),(.int .i64 0),
 (.int .i64 0),(.int .i64 0),(.bool false),(.int .i64 0),(.str []),(.int .i64 0),(.int .i64 0),(.int .i64 0)] [(0,7,74),(7,7,77)])),.op 71 (wg 79 72 true (.call (.k (.fn
 313 [] [])) [73,(.k (.str [99,118,115])),(.k (.str [45,49,50])),78])),.op 72 (p 80 (.pick 72 79 (.k (.bool false)))),.op 73 (p 81 (.mov 80)),.op 77 (pg 85 81 true (.mov 2)),
 .op 78 (pg 86 81 true (.iaddrS 7 85 (.k (.int .i64 3)))),.op 79 (rg 87 81 true (.load (some 7) 86)),.op 75 (wg 83 81 true (.call (.k (.fn 301 [] [])) [(.k (.int .i64 255))])),.re
 79,.op 76 (wg 84 81 true (.call (.k (.fn 301 [] [])) [(.k (.int .i64 16))])),.re 79,.op 74 (pg 82 81 true (.mov 1)),.op 80 (ng 88 81 true (.buildSl 451 3 [(.int .i64 0),(.bool
 false),(.int .i64 0),(.str []),(.int .i64 0),(.int .i64 0),(.int .i64 0),(.int .i64 0),(.bool false),(.int .i64 0),(.str []),(.int .i64 0),(.int .i64 0),(.int .i64 0),(.int
 .i64 0),(.bool false),(.int .i64 0),(.str []),(.int .i64 0),(.int .i64 0),(.int .i64 0)] [(0,7,83),(7,7,84),(14,7,87)])),.op 81 (wg 89 81 true (.call (.k (.fn 313 []
 [])) [82,(.k (.str [99,118,114,115])),(.k (.str [70,70])),88])),.op 82 (p 90 (.pick 81 89 (.k (.bool false)))),.op 83 (p 91 (.mov 90)),.op 85 (pg 93 91 true (.mov 2)),.op
 86 (pg 94 91 true (.iaddrS 7 93 (.k (.int .i64 4)))),.op 87 (rg 95 91 true (.load (some 7) 94)),.op 84 (pg 92 91 true (.mov 1)),.op 88 (ng 96 91 true (.buildSl 451 1 zOb [(0,7,
 95)])),.op 89 (wg 97 91 true (.call (.k (.fn 314 [] [])) [92,(.k (.str [99,118,105])),(.k (.int .i64 22)),96])),.op 90 (p 98 (.pick 91 97 (.k (.bool false)))),.op 91 (p 99 (.mov
 98)),.op 93 (pg 101 99 true (.mov 2)),.op 94 (pg 102 99 true (.iaddrS 7 101 (.k (.int .i64 0)))),.op 95 (rg 103 99 true (.load (some 7) 102)),.op 96 (wg 104 99 true (.call (.k (.fn
 301 [] [])) [(.k (.int .i64 1))])),.re 95,.op 92 (pg 100 99 true (.mov 1)),.op 97 (ng 105 99 true (.buildSl 451 2 [(.int .i64 0),(.bool false),(.int .i64 0),(.str []),(.int .i64
 0),(.int .i64 0),(.int .i64 0),(.int .i64 0),(.bool false),(.int .i64 0),(.str []),(.int .i64 0),(.int .i64 0),(.int .i64 0)] [(0,7,103),(7,7,104)])),.op 98 (wg 106 99
 true (.call (.k (.fn 314 [] [])) [100,(.k (.str [108,116])),(.k (.int .i64 22)),105])),.op 99 (p 107 (.pick 99 106 (.k (.bool false)))),.op 100 (p 0 (.mov 107))]) .ret)))⟩
def chaselaw14_i:MFun:=⟨1,[.cell 2 (some 7)],(.seq (.reg [n 2 (.alloc 451 true zOb)]) (.seq (.reg [p 3 (.mov 0),p 4 (.build zOb [(0,1,(.k (.int .i64 3))),(2,1,3)]),w0 (.store
 7 2 4)]) .ret))⟩
def chaselaw14_b:MFun:=⟨1,[.cell 2 (some 7)],(.seq (.reg [n 2 (.alloc 451 true zOb)]) (.seq (.reg [p 3 (.mov 0),w 4 (.call (.k (.fn 325 [] [])) [3]),w0 (.store 7 2 4)]) .ret))⟩
def heap_Fits:MFun:=⟨2,[.t 4],(.seq (.reg [n 3 (.box 451 true 1),p 4 (.mov (.k (.bool false)))]) (.seq (.seq (.reg [r 6 (.load (some 7) 3),w 7 (.call (.k (.fn 326 [] [])) [6]),
 p 8 (.bin .neq 7 (.k (.int .i64 0)))]) (.cond 8 (.seq (.reg [p 4 (.mov (.k (.bool false)))]) .ret) .skip)) (.seq (.reg [p 9 (.faddr 0 3),r 10 (.load none 9),w 11 (.call (.k (.fn 327
 [] [])) [10]),p 5 (.mov 11)]) (.seq (.seq (.reg [p 12 (.mov 5),p 13 (.bin .eql 12 (.k (.int .i64 0)))]) (.cond 13 (.seq (.reg [p 4 (.mov (.k (.bool true)))]) .ret) .skip)) (.seq (.seq
 (.reg [p 14 (.faddr 4 3),r 15 (.load none 14),p 16 (.mov 0),p 17 (.lenOf false 16),p 18 (.bin .geq 15 17),p 19 (.mov 18),pg 20 19 false (.mov 0),pg 21 19 false (.faddr 4 3),
 rg 22 19 false (.load none 21),pg 23 19 false (.iaddrS 7 20 22),pg 24 19 false (.faddr 0 23),rg 25 19 false (.load none 24),pg 26 19 false (.mov 5),pg 27 19 false (.bin .neq 25
 26),p 28 (.pick 19 (.k (.bool true)) 27)]) (.seq (.keep [0,3,28]) (.cond 28 (.seq (.reg [p 4 (.mov (.k (.bool false)))]) .ret) .skip))) (.seq (.keep [0,3]) (.seq (.regd [.op 0 (p
 29 (.faddr 0 3)),.op 1 (r 30 (.load none 29)),.op 2 (p 31 (.bin .eql 30 (.k (.int .i64 9)))),.op 3 (p 32 (.mov 31)),.op 4 (pg 33 32 false (.faddr 0 3)),.op 5 (rg 34 32 false (.load
 none 33)),.op 6 (pg 35 32 false (.bin .eql 34 (.k (.int .i64 11)))),.op 7 (p 36 (.pick 32 (.k (.bool true)) 35)),.op 8 (p 37 (.mov 36)),.op 9 (pg 38 37 false (.faddr 5 3)),.op
 10 (rg 39 37 false (.load none 38)),.op 11 (pg 40 37 false (.faddr 6 3)),.op 12 (rg 41 37 false (.load none 40)),.op 15 (pg 44 37 false (.faddr 4 3)),.op 16 (rg 45 37 false (.load
 none 44)),.op 14 (pg 43 37 false (.mov 0)),.op 17 (pg 46 37 false (.iaddrS 7 43 45)),.op 18 (rg 47 37 false (.load (some 7) 46)),.op 19 (wg 48 37 false (.call (.k (.fn 328 [] []))
 [47])),.re 10,.re 12,.op 13 (pg 42 37 false (.bin .add 39 41)),.op 20 (pg 49 37 false (.bin .leq 42 48)),.op 21 (p 50 (.pick 37 (.k (.bool true)) 49)),.op 22 (p 4 (.mov 50))])
 .ret)))))))⟩
def object_KindName:MFun:=⟨1,[.t 2,.t 3],(.seq (.reg [n 1 (.box 451 true 0),p 2 (.mov (.k (.str []))),p 3 (.mov (.k (.int .i64 0)))]) (.seq (.seq (.reg [r 5 (.load (some 7)
 1),w 6 (.call (.k (.fn 326 [] [])) [5]),p 4 (.mov 6)]) (.seq (.reg [p 7 (.mov 4),p 8 (.bin .neq 7 (.k (.int .i64 0)))]) (.cond 8 (.seq (.reg [p 9 (.mov 4),p 2 (.mov (.k (.str []))),
 p 3 (.mov 9)]) .ret) .skip))) (.seq (.keep [1]) (.seq (.regd [.op 1 (p 11 (.faddr 0 1)),.op 2 (r 12 (.load none 11)),.op 0 (w 10 (.call (.k (.fn 329 [] [])) [])),.re 2,.op 3 (p
 13 (.idxA 13 6 (some 6) 10 12)),.op 4 (p 14 (.field 0 none 13)),.op 5 (p 2 (.mov 14)),.op 6 (p 3 (.mov (.k (.int .i64 0))))]) .ret))))⟩
def chaselaw14_strings_l0:MCode:=(.seq (.keep [4,5,8,9,10]) (.seq (.reg [p 11 (.bin .lss 10 9)]) (.seq (.cond 11 .skip (.exit 0)) (.seq (.block 1 (.seq (.reg [p 12 (.mov 10),
 p 13 (.iaddrS 1 8 10),r 14 (.load none 13),p 6 (.mov 12),p 7 (.mov 14)]) (.seq (.reg [p 15 (.mov 4),p 16 (.mov 7),p 17 (.build zCe [(0,1,(.k (.int .i64 1))),(1,1,16)]),n
 18 (.buildSl 486 1 zCe [(0,7,17)]),w 19 (.append 486 7 112 zCe 15 18),p 4 (.mov 19)]) (.reg [p 20 (.mov 5),p 21 (.mov 6),p 22 (.mov 7),p 23 (.lenOf true 22),p 24 (.build zOb
 [(0,1,(.k (.int .i64 6))),(4,1,21),(6,1,23)]),n 25 (.buildSl 451 1 zOb [(0,7,24)]),w 26 (.append 451 7 64 zOb 20 25),p 5 (.mov 26)])))) (.seq (.keep [4,5,8,9,10]) (.reg
 [p 27 (.bin .add 10 (.k (.int .i64 1))),p 10 (.mov 27)]))))))
def chaselaw14_strings:MFun:=⟨1,[.t 2,.t 3],(.seq (.reg [p 2 (.mov (.k .nilslice)),p 3 (.mov (.k .nilslice))]) (.seq (.reg [p 4 (.mov (.k .nilslice))]) (.seq (.reg [p 5 (.mov
 (.k .nilslice))]) (.seq (.seq (.reg [p 8 (.mov 0),p 9 (.lenOf false 8),p 10 (.mov (.k (.int .i64 0)))]) (.block 0 (.loop chaselaw14_strings_l0))) (.seq (.keep [4,5]) (.seq (.reg
 [p 28 (.mov 4),p 29 (.mov 5),p 2 (.mov 28),p 3 (.mov 29)]) .ret))))))⟩
def chaselaw14_r:MFun:=⟨1,[.cell 2 (some 7)],(.seq (.reg [n 2 (.alloc 451 true zOb)]) (.seq (.reg [p 3 (.mov 0),p 4 (.build zOb [(0,1,(.k (.int .i64 4))),(2,1,3)]),w0 (.store
 7 2 4)]) .ret))⟩
def logic_Do:MFun:=⟨2,[.cell 4 (some 67),.t 5],(.seq (.reg [n 2 (.box 457 true 0),n 4 (.alloc 457 true z457),p 5 (.mov (.k (.int .i64 0)))]) (.seq (.reg [r 14 (.load (some
 67) 2),p 15 (.build z457 [(0,67,14)]),n 6 (.alloc 493 true z457),w0 (.store 67 6 15)]) (.seq (.reg [n 16 (.mkMap),w0 (.mput .s 16 (.k (.str [108,116])) (.k (.fn 330 [] []))),
 w0 (.mput .s 16 (.k (.str [108,101])) (.k (.fn 331 [] []))),w0 (.mput .s 16 (.k (.str [103,116])) (.k (.fn 332 [] []))),w0 (.mput .s 16 (.k (.str [103,101])) (.k (.fn 333 [] []))),
 p 17 (.mov 16),p 7 (.mov 17)]) (.seq (.seq (.reg [p 19 (.mov 7),p 20 (.mov 1),r 21 (.lookup .s .nilfn true 19 20),p 18 (.mov 21),p 22 (.extr 0 18),p 23 (.extr 1 18),p 8 (.mov
 22),p 9 (.mov 23)]) (.seq (.keep [1,2,4,6,8,9]) (.seq (.reg [p 24 (.mov 9)]) (.cond 24 (.seq (.reg [r 25 (.load (some 67) 6),p 26 (.mov 8),w 27 (.call (.k (.fn 334 [] [])) [25,
 26]),p 28 (.extr 0 27),p 29 (.extr 1 27),w0 (.store 67 4 28),p 5 (.mov 29)]) .ret) .skip)))) (.seq (.keep [1,2,4,6]) (.seq (.reg [n 30 (.mkMap),w0 (.mput .s 30 (.k (.str [97,
 110,100])) (.k (.fn 335 [] []))),w0 (.mput .s 30 (.k (.str [111,114])) (.k (.fn 336 [] []))),w0 (.mput .s 30 (.k (.str [120,111,114])) (.k (.fn 337 [] []))),p 31 (.mov 30),p
 10 (.mov 31)]) (.seq (.seq (.reg [p 33 (.mov 10),p 34 (.mov 1),r 35 (.lookup .s .nilfn true 33 34),p 32 (.mov 35),p 36 (.extr 0 32),p 37 (.extr 1 32),p 11 (.mov 36),p 12 (.mov
 37)]) (.seq (.keep [1,2,4,6,11,12]) (.seq (.reg [p 38 (.mov 12)]) (.cond 38 (.seq (.reg [r 39 (.load (some 67) 6),p 40 (.mov 11),w 41 (.call (.k (.fn 338 [] [])) [39,40]),p
 42 (.extr 0 41),p 43 (.extr 1 41),w0 (.store 67 4 42),p 5 (.mov 43)]) .ret) .skip)))) (.seq (.keep [1,2,4,6]) (.seq (.reg [r 44 (.load (some 67) 6),p 45 (.mkfn 339 [44] []),
 p 13 (.mov 45)]) (.seq (.seq (.reg [p 46 (.mov 1)]) (.block 0 (.seq (.seq (.reg [p 48 (.bin .eql 46 (.k (.str [101,113]))),p 47 (.mov 48)]) (.cond 47 .skip (.reg [p 49 (.bin .eql
 46 (.k (.str [110,101]))),p 47 (.mov 49)]))) (.cond 47 (.seq (.reg [r 50 (.load (some 67) 6),p 51 (.mov 1),p 52 (.bin .eql 51 (.k (.str [101,113]))),w 53 (.call (.k (.fn 340 []
 [])) [50,52]),p 54 (.extr 0 53),p 55 (.extr 1 53),w0 (.store 67 4 54),p 5 (.mov 55)]) .ret) (.seq (.reg [p 57 (.bin .eql 46 (.k (.str [110,111,116]))),p 56 (.mov 57)]) (.cond
 56 (.seq (.reg [r 58 (.load (some 67) 6),w 59 (.call (.k (.fn 341 [] [])) [58]),p 60 (.extr 0 59),p 61 (.extr 1 59),w0 (.store 67 4 60),p 5 (.mov 61)]) .ret) (.seq (.reg [p 63
 (.bin .eql 46 (.k (.str [98,105,116,115,104,105,102,116]))),p 62 (.mov 63)]) (.cond 62 (.seq (.reg [r 64 (.load (some 67) 6),w 65 (.call (.k (.fn 342 [] [])) [64]),p 66 (.extr
 0 65),p 67 (.extr 1 65),w0 (.store 67 4 66),p 5 (.mov 67)]) .ret) (.seq (.seq (.reg [p 69 (.bin .eql 46 (.k (.str [116,114,117,101]))),p 68 (.mov 69)]) (.cond 68 .skip (.reg
 [p 70 (.bin .eql 46 (.k (.str [102,97,108,115,101]))),p 68 (.mov 70)]))) (.cond 68 (.seq (.regd [.op 0 (r 71 (.load (some 67) 2)),.op 1 (p 72 (.mov 1)),.op 2 (p 73 (.bin .eql
 72 (.k (.str [116,114,117,101])))),.op 3 (w 74 (.call (.k (.fn 343 [] [])) [73])),.re 0,.op 4 (n 75 (.buildSl 451 1 zOb [(0,7,74)])),.op 5 (w 76 (.call (.k (.fn 344 [] []))
 [71,75])),.op 6 (p 77 (.extr 0 76)),.op 7 (p 78 (.extr 1 76)),.op 8 (w0 (.store 67 4 77)),.op 9 (p 5 (.mov 78))]) .ret) (.seq (.reg [p 80 (.bin .eql 46 (.k (.str [110,117,108,
 108]))),p 79 (.mov 80)]) (.cond 79 (.seq (.reg [r 81 (.load (some 67) 2),p 82 (.build zOb []),n 83 (.buildSl 451 1 zOb [(0,7,82)]),w 84 (.call (.k (.fn 344 [] [])) [81,83]),
 p 85 (.extr 0 84),p 86 (.extr 1 84),w0 (.store 67 4 85),p 5 (.mov 86)]) .ret) (.seq (.reg [p 88 (.bin .eql 46 (.k (.str [116,121,112,101]))),p 87 (.mov 88)]) (.cond 87 (.seq
 (.reg [p 89 (.mov 13),w 90 (.call 89 [(.k (.int .i64 0)),(.k (.fn 345 [] []))]),p 91 (.extr 0 90),p 92 (.extr 1 90),w0 (.store 67 4 91),p 5 (.mov 92)]) .ret) (.seq (.reg [p 94
 (.bin .eql 46 (.k (.str [120,99,104,101,99,107]))),p 93 (.mov 94)]) (.cond 93 (.seq (.reg [p 95 (.mov 13),w 96 (.call 95 [(.k (.int .i64 0)),(.k (.fn 346 [] []))]),p 97 (.extr
 0 96),p 98 (.extr 1 96),w0 (.store 67 4 97),p 5 (.mov 98)]) .ret) (.seq (.seq (.reg [p 100 (.bin .eql 46 (.k (.str [99,118,120]))),p 99 (.mov 100)]) (.cond 99 .skip (.reg [p 101
 (.bin .eql 46 (.k (.str [99,118,108,105,116]))),p 99 (.mov 101)]))) (.cond 99 (.seq (.reg [p 102 (.mov 13),p 103 (.mov 1),p 104 (.bin .eql 103 (.k (.str [99,118,120]))),w
 105 (.call (.k (.fn 347 [] [])) [104]),w 106 (.call 102 [(.k (.int .i64 0)),105]),p 107 (.extr 0 106),p 108 (.extr 1 106),w0 (.store 67 4 107),p 5 (.mov 108)]) .ret) (.seq (.reg
 [p 110 (.bin .eql 46 (.k (.str [99,118,110]))),p 109 (.mov 110)]) (.cond 109 (.seq (.reg [p 111 (.mov 13),r 112 (.load (some 67) 6),p 113 (.mkfn 348 [112] []),w 114 (.call 111
 [(.k (.int .i64 2)),113]),p 115 (.extr 0 114),p 116 (.extr 1 114),w0 (.store 67 4 115),p 5 (.mov 116)]) .ret) (.seq (.reg [p 118 (.bin .eql 46 (.k (.str [99,118,105]))),p 117
 (.mov 118)]) (.cond 117 (.seq (.reg [p 119 (.mov 13),r 120 (.load (some 67) 6),w 121 (.call (.k (.fn 349 [] [])) [120,(.k (.fn 350 [] []))]),w 122 (.call 119 [(.k (.int .i64 5)),
 121]),p 123 (.extr 0 122),p 124 (.extr 1 122),w0 (.store 67 4 123),p 5 (.mov 124)]) .ret) (.seq (.reg [p 126 (.bin .eql 46 (.k (.str [99,118,114]))),p 125 (.mov 126)]) (.cond
 125 (.seq (.reg [p 127 (.mov 13),r 128 (.load (some 67) 6),w 129 (.call (.k (.fn 349 [] [])) [128,(.k (.fn 351 [] []))]),w 130 (.call 127 [(.k (.int .i64 5)),129]),p 131 (.extr
 0 130),p 132 (.extr 1 130),w0 (.store 67 4 131),p 5 (.mov 132)]) .ret) (.seq (.reg [p 134 (.bin .eql 46 (.k (.str [99,118,115]))),p 133 (.mov 134)]) (.cond 133 (.seq (.reg [r
 135 (.load (some 67) 6),w 136 (.call (.k (.fn 352 [] [])) [135]),p 137 (.extr 0 136),p 138 (.extr 1 136),w0 (.store 67 4 137),p 5 (.mov 138)]) .ret) (.seq (.reg [p 140 (.bin .eql
 46 (.k (.str [99,118,114,115]))),p 139 (.mov 140)]) (.cond 139 (.seq (.reg [r 141 (.load (some 67) 6),w 142 (.call (.k (.fn 353 [] [])) [141]),p 143 (.extr 0 142),p 144 (.extr
 1 142),w0 (.store 67 4 143),p 5 (.mov 144)]) .ret) .skip)))))))))))))))))))))))))))) (.seq (.keep [2,4]) (.seq (.reg [r 145 (.load (some 67) 2),w0 (.store 67 4 145),p 5 (.mov (.k
 (.int .i64 24)))]) .ret))))))))))))⟩
def chaselaw14_gives:MFun:=⟨4,[.t 8],(.seq (.reg [n 6 (.box 451 true 2),p 8 (.mov (.k (.bool false)))]) (.seq (.reg [p 12 (.mov 3),p 13 (.mov 0),p 14 (.build z457 [(0,1,12),
 (2,1,13)]),p 15 (.mov 1),w 16 (.call (.k (.fn 308 [] [])) [14,15]),p 11 (.mov 16),p 17 (.extr 0 11),p 18 (.extr 1 11),n 9 (.alloc 457 true z457),w0 (.store 67 9 17),p 10
 (.mov 18)]) (.seq (.keep [6,9,10]) (.seq (.regd [.op 0 (p 19 (.mov 10)),.op 1 (p 20 (.bin .eql 19 (.k (.int .i64 0)))),.op 2 (p 21 (.mov 20)),.op 3 (pg 22 21 true (.faddr 0 9)),
 .op 4 (rg 23 21 true (.load none 22)),.op 5 (pg 24 21 true (.lenOf false 23)),.op 6 (pg 25 21 true (.bin .eql 24 (.k (.int .i64 1)))),.op 7 (p 26 (.pick 21 25 (.k (.bool false)))),
 .op 8 (p 27 (.mov 26)),.op 9 (pg 28 27 true (.faddr 0 9)),.op 10 (rg 29 27 true (.load none 28)),.op 11 (pg 30 27 true (.iaddrS 7 29 (.k (.int .i64 0)))),.op 12 (rg 31 27 true (.load
 (some 7) 30)),.op 13 (rg 32 27 true (.load (some 7) 6)),.op 14 (pg 33 27 true (.eqA false [(.i .i64),.b,(.i .i64),.s,(.i .i64),(.i .i64),(.i .i64)] 31 32)),.op 15 (p 34 (.pick
 27 33 (.k (.bool false)))),.op 16 (p 8 (.mov 34))]) .ret))))⟩
def chaselaw14_writes:MFun:=⟨4,[.t 8],(.seq (.reg [p 8 (.mov (.k (.bool false)))]) (.seq (.reg [p 14 (.mov 3),p 15 (.mov 0),p 16 (.build z457 [(0,1,14),(2,1,15)]),p 17
 (.mov 1),w 18 (.call (.k (.fn 308 [] [])) [16,17]),p 13 (.mov 18),p 19 (.extr 0 13),p 20 (.extr 1 13),n 9 (.alloc 457 true z457),w0 (.store 67 9 19),p 10 (.mov 20)]) (.seq (.keep
 [2,3,9,10]) (.seq (.seq (.regd [.op 0 (p 21 (.mov 10)),.op 1 (p 22 (.bin .neq 21 (.k (.int .i64 0)))),.op 2 (p 23 (.mov 22)),.op 3 (pg 24 23 false (.faddr 0 9)),.op 4 (rg 25
 23 false (.load none 24)),.op 5 (pg 26 23 false (.lenOf false 25)),.op 6 (pg 27 23 false (.bin .neq 26 (.k (.int .i64 1)))),.op 7 (p 28 (.pick 23 (.k (.bool true)) 27)),.op 8 (p
 29 (.mov 28)),.op 9 (pg 30 29 false (.faddr 0 9)),.op 10 (rg 31 29 false (.load none 30)),.op 11 (pg 32 29 false (.iaddrS 7 31 (.k (.int .i64 0)))),.op 12 (pg 33 29 false (.faddr
 0 32)),.op 13 (rg 34 29 false (.load none 33)),.op 14 (pg 35 29 false (.bin .neq 34 (.k (.int .i64 6)))),.op 15 (p 36 (.pick 29 (.k (.bool true)) 35)),.op 16 (p 37 (.mov 36)),.op
 17 (pg 38 37 false (.faddr 0 9)),.op 18 (rg 39 37 false (.load none 38)),.op 19 (pg 40 37 false (.iaddrS 7 39 (.k (.int .i64 0)))),.op 20 (pg 41 37 false (.faddr 4 40)),.op 21 (rg
 42 37 false (.load none 41)),.op 22 (pg 43 37 false (.mov 3)),.op 23 (pg 44 37 false (.mov 3)),.op 24 (pg 45 37 false (.lenOf false 44)),.op 25 (pg 46 37 false (.bin .sub 45 (.k
 (.int .i64 1)))),.op 26 (pg 47 37 false (.iaddrS 7 43 46)),.op 27 (pg 48 37 false (.faddr 4 47)),.op 28 (rg 49 37 false (.load none 48)),.op 29 (pg 50 37 false (.bin .neq 42 49)),
 .op 30 (p 51 (.pick 37 (.k (.bool true)) 50))]) (.seq (.keep [2,9,51]) (.cond 51 (.seq (.reg [p 8 (.mov (.k (.bool false)))]) .ret) .skip))) (.seq (.keep [2,9]) (.seq (.regd [.op
 0 (p 53 (.faddr 2 9)),.op 1 (r 54 (.load none 53)),.op 2 (p 55 (.faddr 0 9)),.op 3 (r 56 (.load none 55)),.op 4 (p 57 (.iaddrS 7 56 (.k (.int .i64 0)))),.op 5 (r 58 (.load (some
 7) 57)),.op 6 (w 59 (.call (.k (.fn 357 [] [])) [54,58])),.op 7 (p 52 (.mov 59)),.op 8 (p 60 (.extr 0 52)),.op 9 (p 61 (.extr 1 52)),.op 10 (p 11 (.mov 60)),.op 11 (p 12 (.mov
 61))]) (.seq (.keep [2,11,12]) (.seq (.reg [p 62 (.mov 12),p 63 (.bin .eql 62 (.k (.int .i64 0))),p 64 (.mov 63),pg 65 64 true (.mov 11),pg 66 64 true (.mov 2),pg 67 64 true
 (.bin .eql 65 66),p 68 (.pick 64 67 (.k (.bool false))),p 8 (.mov 68)]) .ret))))))))⟩
def chaselaw14_fails:MFun:=⟨4,[.t 8],(.seq (.reg [p 8 (.mov (.k (.bool false)))]) (.seq (.reg [p 12 (.mov 3),p 13 (.mov 0),p 14 (.build z457 [(0,1,12),(2,1,13)]),p 15
 (.mov 1),w 16 (.call (.k (.fn 308 [] [])) [14,15]),p 11 (.mov 16),p 17 (.extr 0 11),p 18 (.extr 1 11),n 9 (.alloc 457 true z457),w0 (.store 67 9 17),p 10 (.mov 18)]) (.seq (.keep
 [0,2,3,9,10]) (.seq (.reg [p 19 (.mov 10),p 20 (.mov 2),p 21 (.bin .eql 19 20),p 22 (.mov 21),pg 23 22 true (.faddr 0 9),rg 24 22 true (.load none 23),pg 25 22 true (.mov
 3),wg 26 22 true (.call (.k (.fn 358 [] [])) [24,25]),p 27 (.pick 22 26 (.k (.bool false))),p 28 (.mov 27),pg 29 28 true (.faddr 2 9),rg 30 28 true (.load none 29),pg 31 28 true
 (.mov 0),wg 32 28 true (.call (.k (.fn 359 [] [])) [30,31]),p 33 (.pick 28 32 (.k (.bool false))),p 8 (.mov 33)]) .ret))))⟩
def chaseref11_SameState_l0:MCode:=(.seq (.keep [2,3,5]) (.seq (.seq (.reg [p 70 (.mov 5),p 71 (.faddr 3 2),r 72 (.load none 71),p 73 (.lenOf false 72),p 74 (.bin .lss 70
 73)]) (.cond 74 .skip (.exit 0))) (.seq (.block 1 (.seq (.regd [.op 0 (p 77 (.faddr 3 2)),.op 1 (r 78 (.load none 77)),.op 2 (p 79 (.mov 5)),.op 3 (p 80 (.iaddrS 3 78 79)),.op 4
 (r 81 (.load (some 3) 80)),.op 5 (p 82 (.faddr 3 3)),.op 6 (r 83 (.load none 82)),.op 7 (p 84 (.mov 5)),.op 8 (p 85 (.iaddrS 3 83 84)),.op 9 (r 86 (.load (some 3) 85)),.op 10
 (n 6 (.alloc 517 true [(.int .i64 0),.nilslice,(.int .i64 0)])),.op 11 (n 7 (.alloc 517 true [(.int .i64 0),.nilslice,(.int .i64 0)])),.op 12 (w0 (.store 3 6 81)),.re 6,.re
 9,.op 13 (w0 (.store 3 7 86))]) (.seq (.keep [2,3,5,6,7]) (.seq (.reg [p 87 (.faddr 0 6),r 88 (.load none 87),p 89 (.faddr 0 7),r 90 (.load none 89),p 91 (.bin .neq 88 90),
 p 92 (.mov 91),pg 93 92 false (.faddr 2 6),rg 94 92 false (.load none 93),pg 95 92 false (.faddr 2 7),rg 96 92 false (.load none 95),pg 97 92 false (.bin .neq 94 96),p 98 (.pick
 92 (.k (.bool true)) 97),p 99 (.mov 98),pg 100 99 false (.faddr 1 6),rg 101 99 false (.load none 100),pg 102 99 false (.faddr 1 7),rg 103 99 false (.load none 102),wg 104 99 false
 (.call (.k (.fn 359 [] [])) [101,103]),pg 105 99 false (.un .not 104),p 106 (.pick 99 (.k (.bool true)) 105)]) (.seq (.keep [2,3,5,106]) (.cond 106 (.seq (.reg [p 4 (.mov (.k
 (.bool false)))]) .ret) .skip)))))) (.seq (.keep [2,3,5]) (.reg [p 75 (.mov 5),p 76 (.bin .add 75 (.k (.int .i64 1))),p 5 (.mov 76)])))))
def chaseref11_SameState_l1:MCode:=(.seq (.keep [2,3,8]) (.seq (.seq (.reg [p 107 (.mov 8),p 108 (.faddr 62 2),r 109 (.load none 108),p 110 (.lenOf false 109),p 111 (.bin
 .lss 107 110)]) (.cond 111 .skip (.exit 2))) (.seq (.block 3 (.seq (.regd [.op 0 (p 114 (.faddr 62 2)),.op 1 (r 115 (.load none 114)),.op 2 (p 116 (.mov 8)),.op 3 (p 117 (.iaddrS
 57 115 116)),.op 4 (r 118 (.load (some 57) 117)),.op 5 (p 119 (.faddr 62 3)),.op 6 (r 120 (.load none 119)),.op 7 (p 121 (.mov 8)),.op 8 (p 122 (.iaddrS 57 120 121)),.op 9 (r
 123 (.load (some 57) 122)),.op 10 (w 124 (.call (.k (.fn 361 [] [])) [118,123])),.op 11 (p 125 (.un .not 124))]) (.seq (.keep [2,3,8,125]) (.cond 125 (.seq (.reg [p 4 (.mov (.k
 (.bool false)))]) .ret) .skip)))) (.seq (.keep [2,3,8]) (.reg [p 112 (.mov 8),p 113 (.bin .add 112 (.k (.int .i64 1))),p 8 (.mov 113)])))))
def chaseref11_SameState:MFun:=⟨2,[.t 4],(.seq (.reg [n 2 (.box 457 true 0),n 3 (.box 457 true 1),p 4 (.mov (.k (.bool false)))]) (.seq (.seq (.reg [p 9 (.faddr 0 2),r 10 (.load
 none 9),p 11 (.faddr 0 3),r 12 (.load none 11),w 13 (.call (.k (.fn 360 [] [])) [10,12]),p 14 (.un .not 13),p 15 (.mov 14),pg 16 15 false (.faddr 1 2),rg 17 15 false (.load
 none 16),pg 18 15 false (.faddr 1 3),rg 19 15 false (.load none 18),wg 20 15 false (.call (.k (.fn 360 [] [])) [17,19]),pg 21 15 false (.un .not 20),p 22 (.pick 15 (.k (.bool
 true)) 21),p 23 (.mov 22),pg 24 23 false (.faddr 2 2),rg 25 23 false (.load none 24),pg 26 23 false (.faddr 2 3),rg 27 23 false (.load none 26),wg 28 23 false (.call (.k (.fn
 359 [] [])) [25,27]),pg 29 23 false (.un .not 28),p 30 (.pick 23 (.k (.bool true)) 29),p 31 (.mov 30),pg 32 31 false (.faddr 3 2),rg 33 31 false (.load none 32),pg 34 31 false
 (.lenOf false 33),pg 35 31 false (.faddr 3 3),rg 36 31 false (.load none 35),pg 37 31 false (.lenOf false 36),pg 38 31 false (.bin .neq 34 37),p 39 (.pick 31 (.k (.bool true))
 38),p 40 (.mov 39),pg 41 40 false (.faddr 4 2),rg 42 40 false (.load none 41),pg 43 40 false (.faddr 4 3),rg 44 40 false (.load none 43),pg 45 40 false (.bin .neq 42 44),p 46
 (.pick 40 (.k (.bool true)) 45),p 47 (.mov 46),pg 48 47 false (.faddr 62 2),rg 49 47 false (.load none 48),pg 50 47 false (.lenOf false 49),pg 51 47 false (.faddr 62 3),rg 52
 47 false (.load none 51),pg 53 47 false (.lenOf false 52),pg 54 47 false (.bin .neq 50 53),p 55 (.pick 47 (.k (.bool true)) 54),p 56 (.mov 55),pg 57 56 false (.faddr 65 2),rg
 58 56 false (.load none 57),pg 59 56 false (.faddr 65 3),rg 60 56 false (.load none 59),pg 61 56 false (.bin .neq 58 60),p 62 (.pick 56 (.k (.bool true)) 61),p 63 (.mov 62),pg
 64 63 false (.faddr 66 2),rg 65 63 false (.load none 64),pg 66 63 false (.faddr 66 3),rg 67 63 false (.load none 66),pg 68 63 false (.bin .neq 65 67),p 69 (.pick 63 (.k (.bool
 true)) 68)]) (.seq (.keep [2,3,69]) (.cond 69 (.seq (.reg [p 4 (.mov (.k (.bool false)))]) .ret) .skip))) (.seq (.keep [2,3]) (.seq (.seq (.reg [p 5 (.mov (.k (.int .i64 0)))]) (.block
 0 (.loop chaseref11_SameState_l0))) (.seq (.keep [2,3]) (.seq (.seq (.reg [p 8 (.mov (.k (.int .i64 0)))]) (.block 2 (.loop chaseref11_SameState_l1))) (.seq (.keep [2,3]) (.seq (.reg
 [p 126 (.faddr 5 2),r 127 (.load (some 57) 126),p 128 (.faddr 5 3),r 129 (.load (some 57) 128),w 130 (.call (.k (.fn 361 [] [])) [127,129]),p 131 (.mov 130),pg 132 131 true (.faddr
 63 2),rg 133 131 true (.load none 132),pg 134 131 true (.lenOf false 133),pg 135 131 true (.faddr 63 3),rg 136 131 true (.load none 135),pg 137 131 true (.lenOf false 136),pg
 138 131 true (.bin .eql 134 137),p 139 (.pick 131 138 (.k (.bool false))),p 140 (.mov 139),pg 141 140 true (.faddr 64 2),rg 142 140 true (.load none 141),pg 143 140 true (.lenOf
 false 142),pg 144 140 true (.faddr 64 3),rg 145 140 true (.load none 144),pg 146 140 true (.lenOf false 145),pg 147 140 true (.bin .eql 143 146),p 148 (.pick 140 147 (.k (.bool
 false))),p 4 (.mov 148)]) .ret))))))))⟩
def logic_Text:MFun:=⟨2,[.t 4],(.seq (.reg [n 3 (.box 451 true 1),p 4 (.mov (.k (.str [])))]) (.seq (.seq (.reg [p 8 (.mov 0),r 9 (.load (some 7) 3),w 10 (.call (.k (.fn 304
 [] [])) [8,9]),p 11 (.un .not 10)]) (.cond 11 (.seq (.reg [p 4 (.mov (.k (.str [])))]) .ret) .skip)) (.seq (.reg [p 5 (.mov (.k (.fn 362 [] [])))]) (.seq (.reg [p 12 (.build [.nilfn]
 [(0,1,(.k (.fn 363 [] [])))]),p 13 (.build [.nilfn] [(0,1,(.k (.fn 364 [] [])))]),p 14 (.build [.nilfn] [(0,1,(.k (.fn 365 [] [])))]),p 15 (.mov 5),p 16 (.build [.nilfn] [(0,
 1,15)]),p 17 (.build [.nilfn] [(0,1,(.k (.fn 366 [] [])))]),p 18 (.mov 5),p 19 (.build [.nilfn] [(0,1,18)]),p 20 (.build [.nilfn] []),p 21 (.build (List.replicate 14 .nilfn)
 [(2,1,12),(3,1,13),(4,1,14),(5,1,16),(6,1,17),(10,1,19),(13,1,20)]),n 6 (.alloc 526 true (List.replicate 14 .nilfn)),w0 (.store 14 6 21)]) (.seq (.keep [0,3,
 6]) (.seq (.seq (.reg [p 22 (.faddr 0 3),r 23 (.load none 22),p 24 (.iaddrA 14 1 6 23),p 25 (.faddr 0 24),r 26 (.load none 25),p 7 (.mov 26)]) (.seq (.reg [p 27 (.mov 7),p 28
 (.eqN true 3 27 (.k .nilfn))]) (.cond 28 (.seq (.reg [p 29 (.mov 7),p 30 (.mov 0),r 31 (.load (some 7) 3),w 32 (.call 29 [30,31]),p 4 (.mov 32)]) .ret) .skip))) (.seq (.keep [])
 (.seq (.reg [p 4 (.mov (.k (.str [45,45,110,111,115,116,114,105,110,103,118,97,108,45,45])))]) .ret))))))))⟩
def chaseref10_Bool:MFun:=⟨1,[.cell 2 (some 7)],(.seq (.reg [n 2 (.alloc 451 true zOb)]) (.seq (.seq (.reg [p 3 (.mov 0)]) (.cond 3 (.seq (.reg [p 4 (.build zOb [(0,1,(.k (.int
 .i64 2))),(2,1,(.k (.int .i64 1)))]),w0 (.store 7 2 4)]) .ret) .skip)) (.seq (.reg [p 5 (.build zOb [(0,1,(.k (.int .i64 2)))]),w0 (.store 7 2 5)]) .ret)))⟩
def object_Check_l0:MCode:=(.seq (.keep [1,3,4,19,20]) (.seq (.reg [p 21 (.bin .lss 20 (.k (.int .i64 3)))]) (.seq (.cond 21 .skip (.exit 0)) (.seq (.block 1 (.seq (.reg [p
 22 (.idxA 3 1 none 19 20),p 6 (.mov 22)]) (.seq (.reg [p 23 (.mov 6),r 24 (.load (some 6) 3),r 25 (.load (some 7) 1),w 26 (.call 23 [24,25]),p 27 (.un .not 26)]) (.cond 27 (.seq
 (.reg [p 4 (.mov (.k (.int .i64 200)))]) (.exit 0)) .skip)))) (.seq (.keep [1,3,4,19,20]) (.reg [p 28 (.bin .add 20 (.k (.int .i64 1))),p 20 (.mov 28)]))))))
def object_Check:MFun:=⟨1,[.t 2],(.seq (.reg [n 1 (.box 451 true 0),p 2 (.mov (.k (.int .i64 0)))]) (.scope (.seq (.seq (.reg [p 7 (.faddr 0 1),r 8 (.load none 7),p 9 (.bin
 .lss 8 (.k (.int .i64 0))),p 10 (.mov 9),pg 11 10 false (.faddr 0 1),rg 12 10 false (.load none 11),pg 13 10 false (.bin .geq 12 (.k (.int .i64 13))),p 14 (.pick 10 (.k (.bool
 true)) 13)]) (.seq (.keep [1,14]) (.cond 14 (.seq (.reg [p 2 (.mov (.k (.int .i64 200)))]) .ret) .skip))) (.seq (.keep [1]) (.seq (.regd [.op 1 (p 16 (.faddr 0 1)),.op 2 (r 17 (.load
 none 16)),.op 0 (w 15 (.call (.k (.fn 329 [] [])) [])),.re 2,.op 3 (p 18 (.idxA 13 6 (some 6) 15 17)),.op 4 (n 3 (.alloc 532 true zKd)),.op 5 (w0 (.store 6 3 18))]) (.seq (.reg
 [p 4 (.mov (.k (.int .i64 0)))]) (.seq .skip (.seq (.seq (.reg [p 19 (.build [.nilfn,.nilfn,.nilfn] [(0,1,(.k (.fn 379 [] []))),(1,1,(.k (.fn 380 [] []))),(2,1,(.k (.fn 381
 [] [])))]),p 20 (.mov (.k (.int .i64 0)))]) (.block 0 (.loop object_Check_l0))) (.seq (.keep [4]) (.seq (.reg [p 29 (.mov 4),p 2 (.mov 29)]) .ret))))))))))⟩
def heap_cellKind:MFun:=⟨1,[.t 2],(.seq (.reg [p 2 (.mov (.k (.int .i64 0)))]) (.seq (.reg [p 3 (.build (List.replicate 14 (.int .i64 0)) [(6,1,(.k (.int .i64 1))),(7,1,(.k
 (.int .i64 2))),(8,1,(.k (.int .i64 2))),(9,1,(.k (.int .i64 3))),(11,1,(.k (.int .i64 4))),(13,1,(.k (.int .i64 0)))]),p 4 (.mov 0),p 5 (.idxA 14 1 none 3 4),p 2 (.mov
 5)]) .ret))⟩
def heap_length:MFun:=⟨1,[.t 2],(.seq (.reg [n 1 (.box 486 true 0),p 2 (.mov (.k (.int .i64 0)))]) (.seq (.seq (.reg [p 3 (.faddr 0 1),r 4 (.load none 3),p 5 (.bin .eql 4 (.k
 (.int .i64 1)))]) (.cond 5 (.seq (.reg [p 6 (.faddr 1 1),r 7 (.load none 6),p 8 (.lenOf true 7),p 2 (.mov 8)]) .ret) .skip)) (.seq (.reg [p 9 (.faddr 2 1),r 10 (.load none 9),p
 11 (.lenOf false 10),p 2 (.mov 11)]) .ret)))⟩
def object_kinds:MFun:=⟨0,[.cell 0 (some 78)],(.seq (.reg [n 0 (.alloc 533 true z533)]) (.seq (.reg [p 1 (.build zKd [(0,1,(.k (.str [110,117,108,108,116,121,112,101])))]),
 p 2 (.build zKd [(0,1,(.k (.str [109,97,114,107,116,121,112,101])))]),p 3 (.build zKd [(0,1,(.k (.str [98,111,111,108,101,97,110,116,121,112,101]))),(2,1,(.k
 (.int .i64 1)))]),p 4 (.build zKd [(0,1,(.k (.str [105,110,116,101,103,101,114,116,121,112,101]))),(1,1,(.k (.int .i64 (-2147483648)))),(2,1,(.k (.int .i64 2147483647)))]),
 p 5 (.build zKd [(0,1,(.k (.str [114,101,97,108,116,121,112,101]))),(1,1,(.k (.int .i64 (-2147483648)))),(2,1,(.k (.int .i64 2147483648)))]),p 6 (.build zKd [(0,1,
 (.k (.str [110,97,109,101,116,121,112,101]))),(4,1,(.k (.int .i64 100)))]),p 7 (.build zKd [(0,1,(.k (.str [115,116,114,105,110,103,116,121,112,101]))),(5,1,
 (.k (.int .i64 1)))]),p 8 (.build zKd [(0,1,(.k (.str [97,114,114,97,121,116,121,112,101]))),(5,1,(.k (.int .i64 2)))]),p 9 (.build zKd [(0,1,(.k (.str [112,97,99,
 107,101,100,97,114,114,97,121,116,121,112,101]))),(5,1,(.k (.int .i64 2)))]),p 10 (.build zKd [(0,1,(.k (.str [100,105,99,116,116,121,112,101]))),(5,1,(.k
 (.int .i64 3)))]),p 11 (.build zKd [(0,1,(.k (.str [111,112,101,114,97,116,111,114,116,121,112,101]))),(3,1,(.k (.int .i64 1))),(4,1,(.k (.int .i64 100)))]),p 12
 (.build zKd [(0,1,(.k (.str [102,105,108,101,116,121,112,101]))),(5,1,(.k (.int .i64 3)))]),p 13 (.build zKd [(0,1,(.k (.str [115,97,118,101,116,121,112,101]))),
 (1,1,(.k (.int .i64 1))),(2,1,(.k (.int .i64 9223372036854775807)))]),p 14 (.build z533 [(0,6,1),(6,6,2),(12,6,3),(18,6,4),(24,6,5),(30,6,6),(36,6,7),(42,
 6,8),(48,6,9),(54,6,10),(60,6,11),(66,6,12),(72,6,13)]),w0 (.store 78 0 14)]) .ret))⟩
def logic_Do_1:MFun:=⟨1,[.t 2],(.seq (.reg [p 2 (.mov (.k (.bool false)))]) (.seq (.reg [p 3 (.mov 0),p 4 (.bin .lss 3 (.k (.int .i64 0))),p 2 (.mov 4)]) .ret))⟩
def logic_Do_2:MFun:=⟨1,[.t 2],(.seq (.reg [p 2 (.mov (.k (.bool false)))]) (.seq (.reg [p 3 (.mov 0),p 4 (.bin .leq 3 (.k (.int .i64 0))),p 2 (.mov 4)]) .ret))⟩
def logic_Do_3:MFun:=⟨1,[.t 2],(.seq (.reg [p 2 (.mov (.k (.bool false)))]) (.seq (.reg [p 3 (.mov 0),p 4 (.bin .gtr 3 (.k (.int .i64 0))),p 2 (.mov 4)]) .ret))⟩
def logic_Do_4:MFun:=⟨1,[.t 2],(.seq (.reg [p 2 (.mov (.k (.bool false)))]) (.seq (.reg [p 3 (.mov 0),p 4 (.bin .geq 3 (.k (.int .i64 0))),p 2 (.mov 4)]) .ret))⟩
def logic_judge_compare:MFun:=⟨2,[.cell 4 (some 67),.t 5],(.seq (.reg [n 2 (.box 493 true 0),n 4 (.alloc 457 true z457),p 5 (.mov (.k (.int .i64 0)))]) (.seq (.reg [r 15 (.load
 (some 67) 2),n 16 (.buildSl 3 2 [(.int .i64 0),(.int .i64 0)] [(0,1,(.k (.int .i64 5))),(1,1,(.k (.int .i64 0)))]),w 17 (.call (.k (.fn 382 [] [])) [15,16]),p 14 (.mov 17),
 p 18 (.extr 0 14),p 19 (.extr 1 14),p 6 (.mov 18),p 7 (.mov 19)]) (.seq (.keep [1,2,4,6,7]) (.seq (.seq (.reg [p 20 (.mov 7),p 21 (.bin .neq 20 (.k (.int .i64 0)))]) (.cond
 21 (.seq (.reg [p 22 (.faddr 0 2),r 23 (.load (some 67) 22),p 24 (.mov 7),w0 (.store 67 4 23),p 5 (.mov 24)]) .ret) .skip)) (.seq (.reg [p 8 (.mov (.k (.int .i64 1)))]) (.seq (.seq
 (.reg [p 25 (.mov 6),p 26 (.iaddrS 7 25 (.k (.int .i64 0))),p 27 (.faddr 0 26),r 28 (.load none 27),p 29 (.bin .eql 28 (.k (.int .i64 6)))]) (.cond 29 (.reg [p 8 (.mov (.k (.int
 .i64 2)))]) .skip)) (.seq (.seq (.reg [p 30 (.mov 8),p 31 (.mov 6),p 32 (.iaddrS 7 31 (.k (.int .i64 1))),p 33 (.faddr 0 32),r 34 (.load none 33),w 35 (.call (.k (.fn 383 [] []))
 [30,34]),p 36 (.un .not 35)]) (.cond 36 (.seq (.reg [p 37 (.faddr 0 2),r 38 (.load (some 67) 37),w0 (.store 67 4 38),p 5 (.mov (.k (.int .i64 22)))]) .ret) .skip)) (.seq (.keep
 [1,2,4,6,8]) (.seq (.reg [p 9 (.mov (.k (.int .i64 0)))]) (.seq (.seq (.reg [p 39 (.mov 8),p 40 (.bin .eql 39 (.k (.int .i64 2)))]) (.cond 40 (.seq (.regd [.op 0 (p 42 (.faddr
 0 2)),.op 1 (p 43 (.faddr 2 42)),.op 2 (r 44 (.load none 43)),.op 3 (p 45 (.mov 6)),.op 4 (p 46 (.iaddrS 7 45 (.k (.int .i64 0)))),.op 5 (r 47 (.load (some 7) 46)),.op 6 (w 48
 (.call (.k (.fn 357 [] [])) [44,47])),.op 7 (p 41 (.mov 48)),.op 8 (p 49 (.extr 0 41)),.op 9 (p 50 (.extr 1 41)),.op 10 (p 10 (.mov 49)),.op 11 (p 11 (.mov 50))]) (.seq (.keep
 [1,2,4,6,10]) (.seq (.regd [.op 0 (p 52 (.faddr 0 2)),.op 1 (p 53 (.faddr 2 52)),.op 2 (r 54 (.load none 53)),.op 3 (p 55 (.mov 6)),.op 4 (p 56 (.iaddrS 7 55 (.k (.int .i64
 1)))),.op 5 (r 57 (.load (some 7) 56)),.op 6 (w 58 (.call (.k (.fn 357 [] [])) [54,57])),.op 7 (p 51 (.mov 58)),.op 8 (p 59 (.extr 0 51)),.op 9 (p 60 (.extr 1 51)),.op 10 (p
 12 (.mov 59)),.op 11 (p 13 (.mov 60))]) (.seq (.keep [1,2,4,10,12]) (.reg [p 61 (.mov 10),p 62 (.mov 12),w 63 (.call (.k (.fn 384 [] [])) [61,62]),p 9 (.mov 63)]))))) (.regd
 [.op 0 (p 65 (.mov 6)),.op 1 (p 66 (.iaddrS 7 65 (.k (.int .i64 0)))),.op 2 (r 67 (.load (some 7) 66)),.op 3 (p 68 (.mov 6)),.op 4 (p 69 (.iaddrS 7 68 (.k (.int .i64 1)))),.op
 5 (r 70 (.load (some 7) 69)),.op 6 (w 71 (.call (.k (.fn 385 [] [])) [67,70])),.op 7 (p 64 (.mov 71)),.op 8 (p 72 (.extr 0 64)),.op 9 (p 73 (.extr 1 64)),.op 10 (p 9 (.mov 72))])))
 (.seq (.keep [1,2,4,9]) (.seq (.regd [.op 0 (r 74 (.load (some 67) 2)),.op 1 (p 75 (.mov 1)),.op 2 (p 76 (.mov 9)),.op 3 (w 77 (.call 75 [76])),.re 0,.op 4 (w 78 (.call (.k
 (.fn 343 [] [])) [77])),.re 0,.op 5 (w 79 (.call (.k (.fn 386 [] [])) [74,(.k (.int .i64 2)),78])),.op 6 (p 80 (.extr 0 79)),.op 7 (p 81 (.extr 1 79)),.op 8 (w0 (.store 67 4
 80)),.op 9 (p 5 (.mov 81))]) .ret))))))))))))⟩
def logic_Do_5:MFun:=⟨2,[.t 4],(.seq (.reg [p 4 (.mov (.k (.int .i64 0)))]) (.seq (.reg [p 5 (.mov 0),p 6 (.mov 1),p 7 (.bin .and 5 6),p 4 (.mov 7)]) .ret))⟩
def logic_Do_6:MFun:=⟨2,[.t 4],(.seq (.reg [p 4 (.mov (.k (.int .i64 0)))]) (.seq (.reg [p 5 (.mov 0),p 6 (.mov 1),p 7 (.bin .or 5 6),p 4 (.mov 7)]) .ret))⟩
def logic_Do_7:MFun:=⟨2,[.t 4],(.seq (.reg [p 4 (.mov (.k (.int .i64 0)))]) (.seq (.reg [p 5 (.mov 0),p 6 (.mov 1),p 7 (.bin .xor 5 6),p 4 (.mov 7)]) .ret))⟩
def logic_judge_bits:MFun:=⟨2,[.cell 4 (some 67),.t 5],(.seq (.reg [n 2 (.box 493 true 0),n 4 (.alloc 457 true z457),p 5 (.mov (.k (.int .i64 0)))]) (.seq (.reg [r 9 (.load
 (some 67) 2),n 10 (.buildSl 3 2 [(.int .i64 0),(.int .i64 0)] [(0,1,(.k (.int .i64 6))),(1,1,(.k (.int .i64 0)))]),w 11 (.call (.k (.fn 382 [] [])) [9,10]),p 8 (.mov 11),
 p 12 (.extr 0 8),p 13 (.extr 1 8),p 6 (.mov 12),p 7 (.mov 13)]) (.seq (.keep [1,2,4,6,7]) (.seq (.seq (.reg [p 14 (.mov 7),p 15 (.bin .neq 14 (.k (.int .i64 0)))]) (.cond 15
 (.seq (.reg [p 16 (.faddr 0 2),r 17 (.load (some 67) 16),p 18 (.mov 7),w0 (.store 67 4 17),p 5 (.mov 18)]) .ret) .skip)) (.seq (.seq (.regd [.op 0 (p 19 (.mov 6)),.op 1 (p 20 (.iaddrS
 7 19 (.k (.int .i64 0)))),.op 2 (p 21 (.faddr 0 20)),.op 3 (r 22 (.load none 21)),.op 4 (p 23 (.mov 6)),.op 5 (p 24 (.iaddrS 7 23 (.k (.int .i64 1)))),.op 6 (p 25 (.faddr 0 24)),
 .op 7 (r 26 (.load none 25)),.op 8 (p 27 (.bin .neq 22 26))]) (.seq (.keep [1,2,4,6,27]) (.cond 27 (.seq (.reg [p 28 (.faddr 0 2),r 29 (.load (some 67) 28),w0 (.store 67 4 29),
 p 5 (.mov (.k (.int .i64 22)))]) .ret) .skip))) (.seq (.keep [1,2,4,6]) (.seq (.regd [.op 0 (r 30 (.load (some 67) 2)),.op 1 (p 31 (.mov 6)),.op 2 (p 32 (.iaddrS 7 31 (.k (.int
 .i64 0)))),.op 3 (p 33 (.faddr 0 32)),.op 4 (r 34 (.load none 33)),.op 6 (p 36 (.mov 6)),.op 7 (p 37 (.iaddrS 7 36 (.k (.int .i64 0)))),.op 8 (p 38 (.faddr 2 37)),.op 9 (r 39
 (.load none 38)),.op 10 (p 40 (.mov 6)),.op 11 (p 41 (.iaddrS 7 40 (.k (.int .i64 1)))),.op 12 (p 42 (.faddr 2 41)),.op 13 (r 43 (.load none 42)),.op 5 (p 35 (.mov 1)),.op 14
 (w 44 (.call 35 [39,43])),.re 0,.re 4,.op 15 (p 45 (.build zOb [(0,1,34),(2,1,44)])),.op 16 (w 46 (.call (.k (.fn 386 [] [])) [30,(.k (.int .i64 2)),45])),.op 17 (p 47
 (.extr 0 46)),.op 18 (p 48 (.extr 1 46)),.op 19 (w0 (.store 67 4 47)),.op 20 (p 5 (.mov 48))]) .ret)))))))⟩
def logic_judge_one:MFun:=⟨3,[.cell 6 (some 67),.t 7],(.seq (.reg [n 3 (.box 493 true 0),n 6 (.alloc 457 true z457),p 7 (.mov (.k (.int .i64 0)))]) (.seq (.reg [r 12 (.load
 (some 67) 3),p 13 (.mov 1),n 14 (.buildSl 3 1 [(.int .i64 0)] [(0,1,13)]),w 15 (.call (.k (.fn 382 [] [])) [12,14]),p 11 (.mov 15),p 16 (.extr 0 11),p 17 (.extr 1 11),p 8
 (.mov 16),p 9 (.mov 17)]) (.seq (.keep [2,3,6,8,9]) (.seq (.seq (.reg [p 18 (.mov 9),p 19 (.bin .neq 18 (.k (.int .i64 0)))]) (.cond 19 (.seq (.reg [p 20 (.faddr 0 3),r 21 (.load
 (some 67) 20),p 22 (.mov 9),w0 (.store 67 6 21),p 7 (.mov 22)]) .ret) .skip)) (.seq (.reg [p 24 (.mov 2),p 25 (.mov 8),p 26 (.iaddrS 7 25 (.k (.int .i64 0))),r 27 (.load (some
 7) 26),w 28 (.call 24 [27]),p 23 (.mov 28),p 29 (.extr 0 23),p 30 (.extr 1 23),n 10 (.alloc 451 true zOb),w0 (.store 7 10 29),p 9 (.mov 30)]) (.seq (.keep [3,6,9,10]) (.seq
 (.seq (.reg [p 31 (.mov 9),p 32 (.bin .neq 31 (.k (.int .i64 0)))]) (.cond 32 (.seq (.reg [p 33 (.faddr 0 3),r 34 (.load (some 67) 33),p 35 (.mov 9),w0 (.store 67 6 34),p 7 (.mov
 35)]) .ret) .skip)) (.seq (.reg [r 36 (.load (some 67) 3),r 37 (.load (some 7) 10),w 38 (.call (.k (.fn 386 [] [])) [36,(.k (.int .i64 1)),37]),p 39 (.extr 0 38),p 40 (.extr 1
 38),w0 (.store 67 6 39),p 7 (.mov 40)]) .ret))))))))⟩
def logic_judge_same:MFun:=⟨2,[.cell 4 (some 67),.t 5],(.seq (.reg [n 2 (.box 493 true 0),n 4 (.alloc 457 true z457),p 5 (.mov (.k (.int .i64 0)))]) (.seq (.reg [r 9 (.load
 (some 67) 2),n 10 (.buildSl 3 2 [(.int .i64 0),(.int .i64 0)] [(0,1,(.k (.int .i64 0))),(1,1,(.k (.int .i64 0)))]),w 11 (.call (.k (.fn 382 [] [])) [9,10]),p 8 (.mov 11),
 p 12 (.extr 0 8),p 13 (.extr 1 8),p 6 (.mov 12),p 7 (.mov 13)]) (.seq (.keep [1,2,4,6,7]) (.seq (.seq (.reg [p 14 (.mov 7),p 15 (.bin .neq 14 (.k (.int .i64 0)))]) (.cond 15
 (.seq (.reg [p 16 (.faddr 0 2),r 17 (.load (some 67) 16),p 18 (.mov 7),w0 (.store 67 4 17),p 5 (.mov 18)]) .ret) .skip)) (.seq (.regd [.op 0 (r 19 (.load (some 67) 2)),.op 1 (p
 20 (.faddr 0 2)),.op 2 (p 21 (.faddr 2 20)),.op 3 (r 22 (.load none 21)),.op 4 (p 23 (.mov 6)),.op 5 (p 24 (.iaddrS 7 23 (.k (.int .i64 0)))),.op 6 (r 25 (.load (some 7) 24)),
 .op 7 (p 26 (.mov 6)),.op 8 (p 27 (.iaddrS 7 26 (.k (.int .i64 1)))),.op 9 (r 28 (.load (some 7) 27)),.op 10 (w 29 (.call (.k (.fn 387 [] [])) [22,25,28])),.re 0,.op 11 (p 30
 (.mov 1)),.op 12 (p 31 (.eqB false 29 30)),.op 13 (w 32 (.call (.k (.fn 343 [] [])) [31])),.re 0,.op 14 (w 33 (.call (.k (.fn 386 [] [])) [19,(.k (.int .i64 2)),32])),.op 15
 (p 34 (.extr 0 33)),.op 16 (p 35 (.extr 1 33)),.op 17 (w0 (.store 67 4 34)),.op 18 (p 5 (.mov 35))]) .ret)))))⟩
def logic_judge_not:MFun:=⟨1,[.cell 2 (some 67),.t 3],(.seq (.reg [n 1 (.box 493 true 0),n 2 (.alloc 457 true z457),p 3 (.mov (.k (.int .i64 0)))]) (.seq (.reg [r 8 (.load
 (some 67) 1),n 9 (.buildSl 3 1 [(.int .i64 0)] [(0,1,(.k (.int .i64 6)))]),w 10 (.call (.k (.fn 382 [] [])) [8,9]),p 7 (.mov 10),p 11 (.extr 0 7),p 12 (.extr 1 7),p 4 (.mov
 11),p 5 (.mov 12)]) (.seq (.keep [1,2,4,5]) (.seq (.seq (.reg [p 13 (.mov 5),p 14 (.bin .neq 13 (.k (.int .i64 0)))]) (.cond 14 (.seq (.reg [p 15 (.faddr 0 1),r 16 (.load (some
 67) 15),p 17 (.mov 5),w0 (.store 67 2 16),p 3 (.mov 17)]) .ret) .skip)) (.seq (.regd [.op 0 (p 18 (.mov 4)),.op 1 (p 19 (.iaddrS 7 18 (.k (.int .i64 0)))),.op 2 (p 20 (.faddr 0
 19)),.op 3 (r 21 (.load none 20)),.op 4 (p 22 (.mov 4)),.op 5 (p 23 (.iaddrS 7 22 (.k (.int .i64 0)))),.op 6 (p 24 (.faddr 2 23)),.op 7 (r 25 (.load none 24)),.op 8 (p 26 (.bin
 .sub (.k (.int .i64 (-1))) 25)),.op 9 (p 27 (.build zOb [(0,1,21),(2,1,26)])),.op 10 (n 6 (.alloc 451 true zOb)),.op 11 (w0 (.store 7 6 27))]) (.seq (.keep [1,2,4,6]) (.seq
 (.seq (.reg [p 28 (.faddr 0 6),r 29 (.load none 28),p 30 (.bin .eql 29 (.k (.int .i64 2)))]) (.cond 30 (.reg [p 31 (.mov 4),p 32 (.iaddrS 7 31 (.k (.int .i64 0))),p 33 (.faddr 2
 32),r 34 (.load none 33),p 35 (.bin .sub (.k (.int .i64 1)) 34),p 36 (.faddr 2 6),w0 (.store 1 36 35)]) .skip)) (.seq (.keep [1,2,6]) (.seq (.reg [r 37 (.load (some 67) 1),r
 38 (.load (some 7) 6),w 39 (.call (.k (.fn 386 [] [])) [37,(.k (.int .i64 1)),38]),p 40 (.extr 0 39),p 41 (.extr 1 39),w0 (.store 67 2 40),p 3 (.mov 41)]) .ret)))))))))⟩
def logic_judge_bitshift:MFun:=⟨1,[.cell 2 (some 67),.t 3],(.seq (.reg [n 1 (.box 493 true 0),n 2 (.alloc 457 true z457),p 3 (.mov (.k (.int .i64 0)))]) (.seq (.reg [r 9 (.load
 (some 67) 1),n 10 (.buildSl 3 2 [(.int .i64 0),(.int .i64 0)] [(0,1,(.k (.int .i64 4))),(1,1,(.k (.int .i64 4)))]),w 11 (.call (.k (.fn 382 [] [])) [9,10]),p 8 (.mov 11),
 p 12 (.extr 0 8),p 13 (.extr 1 8),p 4 (.mov 12),p 5 (.mov 13)]) (.seq (.keep [1,2,4,5]) (.seq (.seq (.reg [p 14 (.mov 5),p 15 (.bin .neq 14 (.k (.int .i64 0)))]) (.cond 15 (.seq
 (.reg [p 16 (.faddr 0 1),r 17 (.load (some 67) 16),p 18 (.mov 5),w0 (.store 67 2 17),p 3 (.mov 18)]) .ret) .skip)) (.seq (.regd [.op 0 (p 19 (.mov 4)),.op 1 (p 20 (.iaddrS 7 19
 (.k (.int .i64 0)))),.op 2 (p 21 (.faddr 2 20)),.op 3 (r 22 (.load none 21)),.op 5 (p 24 (.mov 4)),.op 6 (p 25 (.iaddrS 7 24 (.k (.int .i64 1)))),.op 7 (p 26 (.faddr 2 25)),.op
 8 (r 27 (.load none 26)),.op 4 (p 23 (.conv .u32 22)),.op 9 (p 6 (.mov 23)),.op 10 (p 7 (.mov 27))]) (.seq (.keep [1,2,6,7]) (.seq (.block 0 (.seq (.reg [p 33 (.mov 7),p 34 (.bin
 .geq 33 (.k (.int .i64 32))),p 35 (.mov 34),pg 36 35 false (.mov 7),pg 37 35 false (.bin .leq 36 (.k (.int .i64 (-32)))),p 38 (.pick 35 (.k (.bool true)) 37),p 32 (.mov 38)]) (.cond
 32 (.reg [p 6 (.mov (.k (.int .u32 0)))]) (.seq (.reg [p 40 (.mov 7),p 41 (.bin .geq 40 (.k (.int .i64 0))),p 39 (.mov 41)]) (.cond 39 (.reg [p 42 (.mov 6),p 43 (.mov 7),p 44 (.bin
 .shl 42 43),p 6 (.mov 44)]) (.reg [p 28 (.mov 6),p 29 (.mov 7),p 30 (.un .neg 29),p 31 (.bin .shr 28 30),p 6 (.mov 31)])))))) (.seq (.keep [1,2,6]) (.seq (.reg [r 45 (.load (some
 67) 1),p 46 (.mov 6),p 47 (.conv .i32 46),p 48 (.conv .i64 47),p 49 (.build zOb [(0,1,(.k (.int .i64 3))),(2,1,48)]),w 50 (.call (.k (.fn 386 [] [])) [45,(.k (.int .i64 2)),
 49]),p 51 (.extr 0 50),p 52 (.extr 1 50),w0 (.store 67 2 51),p 3 (.mov 52)]) .ret)))))))))⟩
def object_Bool:MFun:=⟨1,[.cell 2 (some 7)],(.seq (.reg [n 2 (.alloc 451 true zOb)]) (.seq (.reg [p 4 (.build zOb [(0,1,(.k (.int .i64 2)))]),n 3 (.alloc 451 true zOb),w0
 (.store 7 3 4)]) (.seq (.seq (.reg [p 5 (.mov 0)]) (.cond 5 (.reg [p 6 (.faddr 2 3),w0 (.store 1 6 (.k (.int .i64 1)))]) .skip)) (.seq (.reg [r 7 (.load (some 7) 3),w0 (.store 7 2
 7)]) .ret))))⟩
def stack_Push:MFun:=⟨2,[.cell 4 (some 67),.t 5],(.seq (.reg [n 2 (.box 457 true 0),n 4 (.alloc 457 true z457),p 5 (.mov (.k (.int .i64 0)))]) (.seq (.seq (.reg [p 6 (.faddr
 0 2),r 7 (.load none 6),p 8 (.lenOf false 7),p 9 (.mov 1),p 10 (.lenOf false 9),p 11 (.bin .add 8 10),p 12 (.bin .gtr 11 (.k (.int .i64 100)))]) (.cond 12 (.seq (.reg [r 13 (.load
 (some 67) 2),w0 (.store 67 4 13),p 5 (.mov (.k (.int .i64 21)))]) .ret) .skip)) (.seq (.keep [1,2,4]) (.seq (.reg [p 14 (.faddr 0 2),r 15 (.load none 14),p 16 (.faddr 0 2),r
 17 (.load none 16),p 18 (.lenOf false 17),p 19 (.faddr 0 2),r 20 (.load none 19),p 21 (.lenOf false 20),p 22 (.subL 7 15 none (some 18) (some 21)),p 23 (.mov 1),w 24 (.append
 451 7 64 zOb 22 23),p 25 (.faddr 0 2),w0 (.store 1 25 24)]) (.seq (.keep [2,4]) (.seq (.reg [r 26 (.load (some 67) 2),w0 (.store 67 4 26),p 5 (.mov (.k (.int .i64 0)))]) .ret))))))⟩
def logic_kindOf:MFun:=⟨1,[.cell 2 (some 7),.t 3],(.seq (.reg [n 1 (.box 451 true 0),n 2 (.alloc 451 true zOb),p 3 (.mov (.k (.int .i64 0)))]) (.seq (.reg [r 7 (.load (some
 7) 1),w 8 (.call (.k (.fn 305 [] [])) [7]),p 6 (.mov 8),p 9 (.extr 0 6),p 10 (.extr 1 6),p 4 (.mov 9),p 5 (.mov 10)]) (.seq (.reg [p 11 (.mov 4),w 12 (.call (.k (.fn 388 [] []))
 [11,(.k (.bool true))]),p 13 (.extr 0 12),p 14 (.extr 1 12),w0 (.store 7 2 13),p 3 (.mov 14)]) .ret)))⟩
def logic_Do_8:MFun:=⟨1,[.cell 2 (some 7),.t 3],(.seq (.reg [n 1 (.box 451 true 0),n 2 (.alloc 451 true zOb),p 3 (.mov (.k (.int .i64 0)))]) (.seq (.reg [p 4 (.faddr 1 1),
 r 5 (.load none 4),w 6 (.call (.k (.fn 343 [] [])) [5]),w0 (.store 7 2 6),p 3 (.mov (.k (.int .i64 0)))]) .ret))⟩
def logic_executable:MFun:=⟨1,[.t 2],(.seq (.reg [n 1 (.box 4 false 0),p 2 (.mov (.k .nilfn))]) (.seq (.reg [p 3 (.mkfn 389 [] [1]),p 2 (.mov 3)]) .ret))⟩
def logic_judge_named:MFun:=⟨2,[.cell 4 (some 7),.t 5],(.seq (.reg [n 2 (.box 493 true 0),n 3 (.box 451 true 1),n 4 (.alloc 451 true zOb),p 5 (.mov (.k (.int .i64 0)))]) (.seq
 (.reg [p 11 (.faddr 0 2),p 12 (.faddr 2 11),r 13 (.load none 12),r 14 (.load (some 7) 3),w 15 (.call (.k (.fn 357 [] [])) [13,14]),p 10 (.mov 15),p 16 (.extr 0 10),p 17 (.extr
 1 10),p 6 (.mov 16),p 7 (.mov 17)]) (.seq (.keep [3,4,6]) (.seq (.reg [p 19 (.mov 6),p 20 (.faddr 1 3),r 21 (.load none 20),w 22 (.call (.k (.fn 388 [] [])) [19,21]),p 18 (.mov
 22),p 23 (.extr 0 18),p 24 (.extr 1 18),n 8 (.alloc 451 true zOb),w0 (.store 7 8 23),p 9 (.mov 24)]) (.seq (.keep [4,8,9]) (.seq (.seq (.reg [p 25 (.mov 9),p 26 (.bin .neq 25
 (.k (.int .i64 0)))]) (.cond 26 (.seq (.reg [p 27 (.build zOb []),w0 (.store 7 4 27),p 5 (.mov (.k (.int .i64 23)))]) .ret) .skip)) (.seq (.reg [r 28 (.load (some 7) 8),w0 (.store
 7 4 28),p 5 (.mov (.k (.int .i64 0)))]) .ret)))))))⟩
def logic_converted_api_Obj:MFun:=⟨2,[.t 4],(.seq (.reg [n 2 (.box 493 false 0),n 3 (.box 504 false 1),p 4 (.mov (.k .nilfn))]) (.seq (.reg [p 5 (.mkfn 390 [] [2,3]),p 4 (.mov
 5)]) .ret))⟩
def object_ToInt:MFun:=⟨1,[.cell 2 (some 7),.t 3],(.seq (.reg [n 1 (.box 451 true 0),n 2 (.alloc 451 true zOb),p 3 (.mov (.k (.int .i64 0)))]) (.seq (.reg [r 7 (.load (some
 7) 1),w 8 (.call (.k (.fn 391 [] [])) [7]),p 6 (.mov 8),p 9 (.extr 0 6),p 10 (.extr 1 6),p 4 (.mov 9),p 5 (.mov 10)]) (.seq (.seq (.reg [p 11 (.mov 5),p 12 (.bin .neq 11 (.k
 (.int .i64 0)))]) (.cond 12 (.seq (.reg [p 13 (.build zOb []),p 14 (.mov 5),w0 (.store 7 2 13),p 3 (.mov 14)]) .ret) .skip)) (.seq (.reg [p 15 (.mov 4),p 16 (.bin .quo 15 (.k (.int
 .i64 65536))),w 17 (.call (.k (.fn 392 [] [])) [16]),p 18 (.extr 0 17),p 19 (.extr 1 17),w0 (.store 7 2 18),p 3 (.mov 19)]) .ret))))⟩
def object_ToReal:MFun:=⟨1,[.cell 2 (some 7),.t 3],(.seq (.reg [n 1 (.box 451 true 0),n 2 (.alloc 451 true zOb),p 3 (.mov (.k (.int .i64 0)))]) (.seq (.reg [r 7 (.load (some
 7) 1),w 8 (.call (.k (.fn 391 [] [])) [7]),p 6 (.mov 8),p 9 (.extr 0 6),p 10 (.extr 1 6),p 4 (.mov 9),p 5 (.mov 10)]) (.seq (.seq (.reg [p 11 (.mov 5),p 12 (.bin .neq 11 (.k
 (.int .i64 0)))]) (.cond 12 (.seq (.reg [p 13 (.build zOb []),p 14 (.mov 5),w0 (.store 7 2 13),p 3 (.mov 14)]) .ret) .skip)) (.seq (.seq (.reg [p 15 (.mov 4),p 16 (.bin .lss 15
 (.k (.int .i64 (-2147483648)))),p 17 (.mov 16),pg 18 17 false (.mov 4),pg 19 17 false (.bin .gtr 18 (.k (.int .i64 2147483648))),p 20 (.pick 17 (.k (.bool true)) 19)]) (.cond 20
 (.seq (.reg [p 21 (.build zOb []),w0 (.store 7 2 21),p 3 (.mov (.k (.int .i64 25)))]) .ret) .skip)) (.seq (.keep [2,4]) (.seq (.reg [p 22 (.mov 4),w 23 (.call (.k (.fn 393 [] []))
 [22]),p 24 (.extr 0 23),p 25 (.extr 1 23),w0 (.store 7 2 24),p 3 (.mov 25)]) .ret))))))⟩
def logic_judge_cvs:MFun:=⟨1,[.cell 2 (some 67),.t 3],(.seq (.reg [n 1 (.box 493 true 0),n 2 (.alloc 457 true z457),p 3 (.mov (.k (.int .i64 0)))]) (.seq (.reg [r 7 (.load
 (some 67) 1),n 8 (.buildSl 3 2 [(.int .i64 0),(.int .i64 0)] [(0,1,(.k (.int .i64 0))),(1,1,(.k (.int .i64 2)))]),w 9 (.call (.k (.fn 382 [] [])) [7,8]),p 6 (.mov 9),p 10
 (.extr 0 6),p 11 (.extr 1 6),p 4 (.mov 10),p 5 (.mov 11)]) (.seq (.keep [1,2,4,5]) (.seq (.seq (.reg [p 12 (.mov 5),p 13 (.bin .neq 12 (.k (.int .i64 0)))]) (.cond 13 (.seq (.reg
 [p 14 (.faddr 0 1),r 15 (.load (some 67) 14),p 16 (.mov 5),w0 (.store 67 2 15),p 3 (.mov 16)]) .ret) .skip)) (.seq (.regd [.op 0 (r 17 (.load (some 67) 1)),.op 1 (p 18 (.faddr
 0 1)),.op 2 (p 19 (.faddr 2 18)),.op 3 (r 20 (.load none 19)),.op 4 (p 21 (.mov 4)),.op 5 (p 22 (.iaddrS 7 21 (.k (.int .i64 0)))),.op 6 (r 23 (.load (some 7) 22)),.op 8 (p 25
 (.mov 4)),.op 9 (p 26 (.iaddrS 7 25 (.k (.int .i64 1)))),.op 10 (r 27 (.load (some 7) 26)),.op 7 (w 24 (.call (.k (.fn 316 [] [])) [20,23])),.re 0,.re 10,.op 11 (w 28 (.call
 (.k (.fn 394 [] [])) [17,(.k (.int .i64 2)),24,27])),.op 12 (p 29 (.extr 0 28)),.op 13 (p 30 (.extr 1 28)),.op 14 (w0 (.store 67 2 29)),.op 15 (p 3 (.mov 30))]) .ret)))))⟩
def logic_judge_cvrs:MFun:=⟨1,[.cell 2 (some 67),.t 3],(.seq (.reg [n 1 (.box 493 true 0),n 2 (.alloc 457 true z457),p 3 (.mov (.k (.int .i64 0)))]) (.seq (.reg [r 11 (.load
 (some 67) 1),n 12 (.buildSl 3 3 [(.int .i64 0),(.int .i64 0),(.int .i64 0)] [(0,1,(.k (.int .i64 1))),(1,1,(.k (.int .i64 4))),(2,1,(.k (.int .i64 2)))]),w 13 (.call (.k
 (.fn 382 [] [])) [11,12]),p 10 (.mov 13),p 14 (.extr 0 10),p 15 (.extr 1 10),p 4 (.mov 14),p 5 (.mov 15)]) (.seq (.keep [1,2,4,5]) (.seq (.seq (.reg [p 16 (.mov 5),p 17 (.bin
 .neq 16 (.k (.int .i64 0)))]) (.cond 17 (.seq (.reg [p 18 (.faddr 0 1),r 19 (.load (some 67) 18),p 20 (.mov 5),w0 (.store 67 2 19),p 3 (.mov 20)]) .ret) .skip)) (.seq (.reg [p 21
 (.mov 4),p 22 (.iaddrS 7 21 (.k (.int .i64 1))),p 23 (.faddr 2 22),r 24 (.load none 23),p 6 (.mov 24)]) (.seq (.seq (.reg [p 25 (.mov 6),p 26 (.bin .lss 25 (.k (.int .i64 2))),
 p 27 (.mov 26),pg 28 27 false (.mov 6),pg 29 27 false (.bin .gtr 28 (.k (.int .i64 36))),p 30 (.pick 27 (.k (.bool true)) 29)]) (.cond 30 (.seq (.reg [p 31 (.faddr 0 1),r 32 (.load
 (some 67) 31),w0 (.store 67 2 32),p 3 (.mov (.k (.int .i64 23)))]) .ret) .skip)) (.seq (.keep [1,2,4,6]) (.seq (.regd [.op 0 (p 33 (.faddr 0 1)),.op 1 (p 34 (.faddr 2 33)),.op
 2 (r 35 (.load none 34)),.op 3 (p 36 (.mov 4)),.op 4 (p 37 (.iaddrS 7 36 (.k (.int .i64 0)))),.op 5 (r 38 (.load (some 7) 37)),.op 6 (w 39 (.call (.k (.fn 316 [] [])) [35,38])),
 .op 7 (p 7 (.mov 39))]) (.seq (.keep [1,2,4,6,7]) (.seq (.seq (.reg [p 40 (.mov 6),p 41 (.bin .neq 40 (.k (.int .i64 10)))]) (.cond 41 (.seq (.reg [p 43 (.mov 4),p 44 (.iaddrS
 7 43 (.k (.int .i64 0))),r 45 (.load (some 7) 44),w 46 (.call (.k (.fn 350 [] [])) [45]),p 42 (.mov 46),p 47 (.extr 0 42),p 48 (.extr 1 42),n 8 (.alloc 451 true zOb),w0 (.store
 7 8 47),p 9 (.mov 48)]) (.seq (.keep [1,2,4,6,8]) (.reg [p 49 (.faddr 2 8),r 50 (.load none 49),p 51 (.conv .u32 50),p 52 (.conv .u64 51),p 53 (.mov 6),w 54 (.call (.k (.fn
 395 [] [])) [52,53]),w 55 (.call (.k (.fn 396 [] [])) [54]),p 7 (.mov 55)]))) .skip)) (.seq (.keep [1,2,4,7]) (.seq (.regd [.op 0 (r 56 (.load (some 67) 1)),.op 2 (p 58 (.mov
 4)),.op 3 (p 59 (.iaddrS 7 58 (.k (.int .i64 2)))),.op 4 (r 60 (.load (some 7) 59)),.op 1 (p 57 (.mov 7)),.op 5 (w 61 (.call (.k (.fn 394 [] [])) [56,(.k (.int .i64 3)),57,60])),
 .op 6 (p 62 (.extr 0 61)),.op 7 (p 63 (.extr 1 61)),.op 8 (w0 (.store 67 2 62)),.op 9 (p 3 (.mov 63))]) .ret))))))))))))⟩
def heap_Bytes:MFun:=⟨2,[.t 4,.t 5],(.seq (.reg [n 3 (.box 451 true 1),p 4 (.mov (.k (.str []))),p 5 (.mov (.k (.int .i64 0)))]) (.seq (.reg [p 9 (.mov 0),r 10 (.load (some
 7) 3),n 11 (.buildSl 3 1 [(.int .i64 0)] [(0,1,(.k (.int .i64 6)))]),w 12 (.call (.k (.fn 400 [] [])) [9,10,11]),p 8 (.mov 12),p 13 (.extr 0 8),p 14 (.extr 1 8),n 6 (.alloc
 554 true [.nilslice,(.int .i64 0),(.bool false),(.int .i64 0),(.str []),(.int .i64 0),(.int .i64 0),(.int .i64 0)]),w0 (.store 8 6 13),p 7 (.mov 14)]) (.seq (.keep [3,6,7])
 (.seq (.seq (.reg [p 15 (.mov 7),p 16 (.bin .neq 15 (.k (.int .i64 0)))]) (.cond 16 (.seq (.reg [p 17 (.mov 7),p 4 (.mov (.k (.str []))),p 5 (.mov 17)]) .ret) .skip)) (.seq (.regd
 [.op 0 (r 18 (.load (some 8) 6)),.op 3 (p 21 (.faddr 5 3)),.op 4 (r 22 (.load none 21)),.op 5 (p 23 (.faddr 5 3)),.op 6 (r 24 (.load none 23)),.op 7 (p 25 (.faddr 6 3)),.op 8
 (r 26 (.load none 25)),.op 1 (w 19 (.call (.k (.fn 401 [] [])) [18])),.re 4,.re 6,.re 8,.op 2 (p 20 (.field 1 none 19)),.op 9 (p 27 (.bin .add 24 26)),.op 10 (p 28 (.subS 20
 (some 22) (some 27))),.op 11 (p 4 (.mov 28)),.op 12 (p 5 (.mov (.k (.int .i64 0))))]) .ret)))))⟩
def slices_Equal_api_Obj_api_Obj_l0:MCode:=(.seq (.keep [0,1,12,13]) (.seq (.reg [p 14 (.bin .lss 13 12)]) (.seq (.cond 14 .skip (.exit 0)) (.seq (.block 1 (.seq (.reg [p 15
 (.mov 13),p 5 (.mov 15)]) (.seq (.regd [.op 0 (p 16 (.mov 0)),.op 1 (p 17 (.mov 5)),.op 2 (p 18 (.iaddrS 7 16 17)),.op 3 (r 19 (.load (some 7) 18)),.op 4 (p 20 (.mov 1)),.op 5
 (p 21 (.mov 5)),.op 6 (p 22 (.iaddrS 7 20 21)),.op 7 (r 23 (.load (some 7) 22)),.op 8 (p 24 (.eqA true [(.i .i64),.b,(.i .i64),.s,(.i .i64),(.i .i64),(.i .i64)] 19 23))]) (.seq
 (.keep [0,1,12,13,24]) (.cond 24 (.seq (.reg [p 4 (.mov (.k (.bool false)))]) .ret) .skip))))) (.seq (.keep [0,1,12,13]) (.reg [p 25 (.bin .add 13 (.k (.int .i64 1))),p 13 (.mov
 25)]))))))
def slices_Equal_api_Obj_api_Obj:MFun:=⟨2,[.t 4],(.seq (.reg [p 4 (.mov (.k (.bool false)))]) (.seq (.seq (.reg [p 6 (.mov 0),p 7 (.lenOf false 6),p 8 (.mov 1),p 9 (.lenOf
 false 8),p 10 (.bin .neq 7 9)]) (.cond 10 (.seq (.reg [p 4 (.mov (.k (.bool false)))]) .ret) .skip)) (.seq (.seq (.reg [p 11 (.mov 0),p 12 (.lenOf false 11),p 13 (.mov (.k (.int
 .i64 0)))]) (.block 0 (.loop slices_Equal_api_Obj_api_Obj_l0))) (.seq (.keep []) (.seq (.reg [p 4 (.mov (.k (.bool true)))]) .ret)))))⟩
def chaseref11_Same_l0:MCode:=(.seq (.keep [0,1,5]) (.seq (.seq (.reg [p 11 (.mov 5),p 12 (.mov 0),p 13 (.lenOf false 12),p 14 (.bin .lss 11 13)]) (.cond 14 .skip (.exit 0)))
 (.seq (.block 1 (.seq (.regd [.op 0 (p 17 (.mov 0)),.op 1 (p 18 (.mov 5)),.op 2 (p 19 (.iaddrS 7 17 18)),.op 3 (r 20 (.load (some 7) 19)),.op 4 (p 21 (.mov 1)),.op 5 (p 22 (.mov
 5)),.op 6 (p 23 (.iaddrS 7 21 22)),.op 7 (r 24 (.load (some 7) 23)),.op 8 (w 25 (.call (.k (.fn 402 [] [])) [20,24])),.op 9 (p 26 (.un .not 25))]) (.seq (.keep [0,1,5,26]) (.cond
 26 (.seq (.reg [p 4 (.mov (.k (.bool false)))]) .ret) .skip)))) (.seq (.keep [0,1,5]) (.reg [p 15 (.mov 5),p 16 (.bin .add 15 (.k (.int .i64 1))),p 5 (.mov 16)])))))
def chaseref11_Same:MFun:=⟨2,[.t 4],(.seq (.reg [p 4 (.mov (.k (.bool false)))]) (.seq (.seq (.reg [p 6 (.mov 0),p 7 (.lenOf false 6),p 8 (.mov 1),p 9 (.lenOf false 8),p 10
 (.bin .neq 7 9)]) (.cond 10 (.seq (.reg [p 4 (.mov (.k (.bool false)))]) .ret) .skip)) (.seq (.seq (.reg [p 5 (.mov (.k (.int .i64 0)))]) (.block 0 (.loop chaseref11_Same_l0))) (.seq
 (.keep []) (.seq (.reg [p 4 (.mov (.k (.bool true)))]) .ret)))))⟩
def chaseref11_sameObjs_l0:MCode:=(.seq (.keep [0,1,5]) (.seq (.seq (.reg [p 11 (.mov 5),p 12 (.mov 0),p 13 (.lenOf false 12),p 14 (.bin .lss 11 13)]) (.cond 14 .skip (.exit
 0))) (.seq (.block 1 (.seq (.regd [.op 0 (p 17 (.mov 0)),.op 1 (p 18 (.mov 5)),.op 2 (p 19 (.iaddrS 7 17 18)),.op 3 (r 20 (.load (some 7) 19)),.op 4 (p 21 (.mov 1)),.op 5 (p 22
 (.mov 5)),.op 6 (p 23 (.iaddrS 7 21 22)),.op 7 (r 24 (.load (some 7) 23)),.op 8 (p 25 (.eqA true [(.i .i64),.b,(.i .i64),.s,(.i .i64),(.i .i64),(.i .i64)] 20 24))]) (.seq (.keep
 [0,1,5,25]) (.cond 25 (.seq (.reg [p 4 (.mov (.k (.bool false)))]) .ret) .skip)))) (.seq (.keep [0,1,5]) (.reg [p 15 (.mov 5),p 16 (.bin .add 15 (.k (.int .i64 1))),p 5 (.mov
 16)])))))
def chaseref11_sameObjs:MFun:=⟨2,[.t 4],(.seq (.reg [p 4 (.mov (.k (.bool false)))]) (.seq (.seq (.reg [p 6 (.mov 0),p 7 (.lenOf false 6),p 8 (.mov 1),p 9 (.lenOf false 8),
 p 10 (.bin .neq 7 9)]) (.cond 10 (.seq (.reg [p 4 (.mov (.k (.bool false)))]) .ret) .skip)) (.seq (.seq (.reg [p 5 (.mov (.k (.int .i64 0)))]) (.block 0 (.loop chaseref11_sameObjs_l0)))
 (.seq (.keep []) (.seq (.reg [p 4 (.mov (.k (.bool true)))]) .ret)))))⟩
def chaseref11_SameG:MFun:=⟨2,[.t 4],(.seq (.reg [n 2 (.box 453 true 0),n 3 (.box 453 true 1),p 4 (.mov (.k (.bool false)))]) (.seq (.reg [p 5 (.faddr 0 2),r 6 (.load (some
 6) 5),p 7 (.faddr 0 3),r 8 (.load (some 6) 7),p 9 (.eqA false [(.i .i64),(.i .i64),(.i .i64),(.i .i64),(.i .i64),(.i .i64)] 6 8),p 10 (.mov 9),pg 11 10 true (.faddr 6 2),
 rg 12 10 true (.load none 11),pg 13 10 true (.lenOf false 12),pg 14 10 true (.faddr 6 3),rg 15 10 true (.load none 14),pg 16 10 true (.lenOf false 15),pg 17 10 true (.bin .eql
 13 16),p 18 (.pick 10 17 (.k (.bool false))),p 19 (.mov 18),pg 20 19 true (.faddr 7 2),pg 21 19 true (.faddr 0 20),rg 22 19 true (.load none 21),pg 23 19 true (.faddr 7 3),pg
 24 19 true (.faddr 0 23),rg 25 19 true (.load none 24),pg 26 19 true (.bin .eql 22 25),p 27 (.pick 19 26 (.k (.bool false))),p 28 (.mov 27),pg 29 28 true (.faddr 7 2),pg 30 28
 true (.faddr 1 29),rg 31 28 true (.load (some 4) 30),pg 32 28 true (.faddr 7 3),pg 33 28 true (.faddr 1 32),rg 34 28 true (.load (some 4) 33),pg 35 28 true (.eqA false [(.i .i64),
 (.i .i64),(.i .i64),(.i .i64)] 31 34),p 36 (.pick 28 35 (.k (.bool false))),p 37 (.mov 36),pg 38 37 true (.faddr 34 2),pg 39 37 true (.faddr 0 38),rg 40 37 true (.load none 39),
 pg 41 37 true (.faddr 34 3),pg 42 37 true (.faddr 0 41),rg 43 37 true (.load none 42),pg 44 37 true (.bin .eql 40 43),p 45 (.pick 37 44 (.k (.bool false))),p 46 (.mov 45),pg 47
 46 true (.faddr 40 2),rg 48 46 true (.load none 47),pg 49 46 true (.faddr 40 3),rg 50 46 true (.load none 49),pg 51 46 true (.bin .eql 48 50),p 52 (.pick 46 51 (.k (.bool false))),
 p 53 (.mov 52),pg 54 53 true (.faddr 41 2),rg 55 53 true (.load none 54),pg 56 53 true (.lenOf false 55),pg 57 53 true (.faddr 41 3),rg 58 53 true (.load none 57),pg 59 53 true
 (.lenOf false 58),pg 60 53 true (.bin .eql 56 59),p 61 (.pick 53 60 (.k (.bool false))),p 62 (.mov 61),pg 63 62 true (.faddr 42 2),rg 64 62 true (.load (some 7) 63),pg 65 62 true
 (.faddr 42 3),rg 66 62 true (.load (some 7) 65),pg 67 62 true (.eqA false [(.i .i64),.b,(.i .i64),.s,(.i .i64),(.i .i64),(.i .i64)] 64 66),p 68 (.pick 62 67 (.k (.bool false))),
 p 69 (.mov 68),pg 70 69 true (.faddr 49 2),rg 71 69 true (.load (some 6) 70),pg 72 69 true (.faddr 49 3),rg 73 69 true (.load (some 6) 72),pg 74 69 true (.eqA false [(.i .i64),
 (.i .i64),(.i .i64),(.i .i64),(.i .i64),(.i .i64)] 71 73),p 75 (.pick 69 74 (.k (.bool false))),p 76 (.mov 75),pg 77 76 true (.faddr 55 2),rg 78 76 true (.load none 77),pg
 79 76 true (.faddr 55 3),rg 80 76 true (.load none 79),pg 81 76 true (.bin .eql 78 80),p 82 (.pick 76 81 (.k (.bool false))),p 83 (.mov 82),pg 84 83 true (.faddr 56 2),rg 85 83
 true (.load none 84),pg 86 83 true (.faddr 56 3),rg 87 83 true (.load none 86),pg 88 83 true (.bin .eql 85 87),p 89 (.pick 83 88 (.k (.bool false))),p 4 (.mov 89)]) .ret))⟩
def logic_Text_1:MFun:=⟨2,[.t 4],(.seq (.reg [n 3 (.box 451 true 1),p 4 (.mov (.k (.str [])))]) (.seq (.reg [p 5 (.faddr 3 3),r 6 (.load none 5),p 4 (.mov 6)]) .ret))⟩
def logic_Text_2:MFun:=⟨2,[.t 4],(.seq (.reg [n 3 (.box 451 true 1),p 4 (.mov (.k (.str [])))]) (.seq (.reg [p 5 (.faddr 2 3),r 6 (.load none 5),p 7 (.bin .eql 6 (.k (.int
 .i64 1))),w 8 (.call (.k (.fn 403 [] [])) [7]),p 4 (.mov 8)]) .ret))⟩
def logic_Text_3:MFun:=⟨2,[.t 4],(.seq (.reg [n 3 (.box 451 true 1),p 4 (.mov (.k (.str [])))]) (.seq (.reg [p 5 (.faddr 2 3),r 6 (.load none 5),w 7 (.call (.k (.fn 132 []
 [])) [6]),p 4 (.mov 7)]) .ret))⟩
def logic_Text_4:MFun:=⟨2,[.t 4],(.seq (.reg [n 3 (.box 451 true 1),p 4 (.mov (.k (.str [])))]) (.seq (.reg [p 5 (.faddr 2 3),r 6 (.load none 5),w 7 (.call (.k (.fn 404 []
 [])) [6]),p 4 (.mov 7)]) .ret))⟩
def logic_Text_5:MFun:=⟨2,[.t 4],(.seq (.reg [n 3 (.box 451 true 1),p 4 (.mov (.k (.str [])))]) (.seq (.reg [p 8 (.mov 0),r 9 (.load (some 7) 3),w 10 (.call (.k (.fn 357 []
 [])) [8,9]),p 7 (.mov 10),p 11 (.extr 0 7),p 12 (.extr 1 7),p 5 (.mov 11),p 6 (.mov 12)]) (.seq (.keep [5]) (.seq (.reg [p 13 (.mov 5),p 4 (.mov 13)]) .ret))))⟩
def object_kind_number:MFun:=⟨2,[.t 4],(.seq (.reg [n 2 (.box 532 true 0),n 3 (.box 451 true 1),p 4 (.mov (.k (.bool false)))]) (.seq (.reg [p 5 (.faddr 2 3),r 6 (.load none
 5),p 7 (.faddr 1 2),r 8 (.load none 7),p 9 (.bin .geq 6 8),p 10 (.mov 9),pg 11 10 true (.faddr 2 3),rg 12 10 true (.load none 11),pg 13 10 true (.faddr 2 2),rg 14 10 true (.load
 none 13),pg 15 10 true (.bin .leq 12 14),p 16 (.pick 10 15 (.k (.bool false))),p 4 (.mov 16)]) .ret))⟩
def object_kind_named:MFun:=⟨2,[.t 4],(.seq (.reg [n 2 (.box 532 true 0),n 3 (.box 451 true 1),p 4 (.mov (.k (.bool false)))]) (.seq (.reg [p 5 (.faddr 3 3),r 6 (.load none
 5),p 7 (.lenOf true 6),p 8 (.faddr 3 2),r 9 (.load none 8),p 10 (.bin .geq 7 9),p 11 (.mov 10),pg 12 11 true (.faddr 3 3),rg 13 11 true (.load none 12),pg 14 11 true (.lenOf
 true 13),pg 15 11 true (.faddr 4 2),rg 16 11 true (.load none 15),pg 17 11 true (.bin .leq 14 16),p 18 (.pick 11 17 (.k (.bool false))),p 4 (.mov 18)]) .ret))⟩
def object_kind_referring:MFun:=⟨2,[.t 4],(.seq (.reg [n 2 (.box 532 true 0),n 3 (.box 451 true 1),p 4 (.mov (.k (.bool false)))]) (.seq (.seq (.reg [p 6 (.faddr 5 2),r 7 (.load
 none 6),p 8 (.bin .eql 7 (.k (.int .i64 0)))]) (.cond 8 (.seq (.reg [p 9 (.faddr 4 3),r 10 (.load none 9),p 11 (.bin .eql 10 (.k (.int .i64 0))),p 12 (.mov 11),pg 13 12 true (.faddr
 5 3),rg 14 12 true (.load none 13),pg 15 12 true (.bin .eql 14 (.k (.int .i64 0))),p 16 (.pick 12 15 (.k (.bool false))),p 17 (.mov 16),pg 18 17 true (.faddr 6 3),rg 19 17 true
 (.load none 18),pg 20 17 true (.bin .eql 19 (.k (.int .i64 0))),p 21 (.pick 17 20 (.k (.bool false))),p 4 (.mov 21)]) .ret) .skip)) (.seq (.keep [2,3]) (.seq (.reg [r 22 (.load
 (some 6) 2),w 23 (.call (.k (.fn 417 [] [])) [22]),p 5 (.mov 23)]) (.seq (.reg [p 24 (.faddr 4 3),r 25 (.load none 24),p 26 (.bin .geq 25 (.k (.int .i64 0))),p 27 (.mov 26),pg
 28 27 true (.faddr 4 3),rg 29 27 true (.load none 28),pg 30 27 true (.bin .leq 29 (.k (.int .i64 20000))),p 31 (.pick 27 30 (.k (.bool false))),p 32 (.mov 31),pg 33 32 true (.faddr
 5 3),rg 34 32 true (.load none 33),pg 35 32 true (.bin .geq 34 (.k (.int .i64 0))),p 36 (.pick 32 35 (.k (.bool false))),p 37 (.mov 36),pg 38 37 true (.faddr 6 3),rg 39 37 true
 (.load none 38),pg 40 37 true (.bin .geq 39 (.k (.int .i64 0))),p 41 (.pick 37 40 (.k (.bool false))),p 42 (.mov 41),pg 43 42 true (.faddr 5 3),rg 44 42 true (.load none 43),pg
 45 42 true (.mov 5),pg 46 42 true (.bin .leq 44 45),p 47 (.pick 42 46 (.k (.bool false))),p 48 (.mov 47),pg 49 48 true (.faddr 6 3),rg 50 48 true (.load none 49),pg 51 48 true
 (.mov 5),pg 52 48 true (.faddr 5 3),rg 53 48 true (.load none 52),pg 54 48 true (.bin .sub 51 53),pg 55 48 true (.bin .leq 50 54),p 56 (.pick 48 55 (.k (.bool false))),p 4 (.mov
 56)]) .ret)))))⟩
def logic_judge_operands_l0:MCode:=(.seq (.keep [1,6,7,21,22,23]) (.seq (.reg [p 24 (.bin .lss 23 22)]) (.seq (.cond 24 .skip (.exit 0)) (.seq (.block 1 (.seq (.reg [p 25 (.mov
 23),p 26 (.iaddrS 7 21 23),r 27 (.load (some 7) 26),n 9 (.alloc 451 true zOb),p 8 (.mov 25),w0 (.store 7 9 27)]) (.seq (.regd [.op 0 (p 28 (.mov 1)),.op 1 (p 29 (.mov 8)),.op
 2 (p 30 (.iaddrS 1 28 29)),.op 3 (r 31 (.load none 30)),.op 4 (p 32 (.faddr 0 9)),.op 5 (r 33 (.load none 32)),.op 6 (w 34 (.call (.k (.fn 383 [] [])) [31,33])),.op 7 (p 35 (.un
 .not 34))]) (.seq (.keep [1,6,7,21,22,23,35]) (.cond 35 (.seq (.reg [p 7 (.mov (.k (.int .i64 22)))]) (.exit 0)) .skip))))) (.seq (.keep [1,6,7,21,22,23]) (.reg [p 36 (.bin
 .add 23 (.k (.int .i64 1))),p 23 (.mov 36)]))))))
def logic_judge_operands:MFun:=⟨2,[.t 4,.t 5],(.seq (.reg [n 2 (.box 493 true 0),p 4 (.mov (.k .nilslice)),p 5 (.mov (.k (.int .i64 0)))]) (.scope (.seq (.reg [p 11 (.faddr
 0 2),r 12 (.load (some 67) 11),p 13 (.mov 1),p 14 (.lenOf false 13),w 15 (.call (.k (.fn 418 [] [])) [12,14]),p 10 (.mov 15),p 16 (.extr 0 10),p 17 (.extr 1 10),p 6 (.mov 16),
 p 7 (.mov 17)]) (.seq (.keep [1,6,7]) (.seq (.seq (.reg [p 18 (.mov 7),p 19 (.bin .neq 18 (.k (.int .i64 0)))]) (.cond 19 (.seq (.reg [p 20 (.mov 7),p 4 (.mov (.k .nilslice)),p
 5 (.mov 20)]) .ret) .skip)) (.seq .skip (.seq (.seq (.reg [p 21 (.mov 6),p 22 (.lenOf false 21),p 23 (.mov (.k (.int .i64 0)))]) (.block 0 (.loop logic_judge_operands_l0))) (.seq
 (.keep [6,7]) (.seq (.seq (.reg [p 37 (.mov 7),p 38 (.bin .neq 37 (.k (.int .i64 0)))]) (.cond 38 (.seq (.reg [p 39 (.mov 7),p 4 (.mov (.k .nilslice)),p 5 (.mov 39)]) .ret) .skip))
 (.seq (.reg [p 40 (.mov 6),p 4 (.mov 40),p 5 (.mov (.k (.int .i64 0)))]) .ret))))))))))⟩
def logic_allows:MFun:=⟨2,[.t 4],(.seq (.reg [p 4 (.mov (.k (.bool false)))]) (.seq (.reg [p 6 (.mov 1),p 7 (.bin .eql 6 (.k (.int .i64 3))),p 8 (.mov 7),pg 9 8 false (.mov
 1),pg 10 8 false (.bin .eql 9 (.k (.int .i64 4))),p 11 (.pick 8 (.k (.bool true)) 10),p 5 (.mov 11)]) (.seq (.seq (.reg [p 12 (.mov 0)]) (.block 0 (.seq (.reg [p 14 (.bin .eql 12
 (.k (.int .i64 0))),p 13 (.mov 14)]) (.cond 13 (.seq (.reg [p 4 (.mov (.k (.bool true)))]) .ret) (.seq (.reg [p 16 (.bin .eql 12 (.k (.int .i64 1))),p 15 (.mov 16)]) (.cond 15 (.seq
 (.reg [p 17 (.mov 5),p 4 (.mov 17)]) .ret) (.seq (.reg [p 19 (.bin .eql 12 (.k (.int .i64 2))),p 18 (.mov 19)]) (.cond 18 (.seq (.reg [p 20 (.mov 1),p 21 (.bin .eql 20 (.k (.int
 .i64 6))),p 4 (.mov 21)]) .ret) (.seq (.reg [p 23 (.bin .eql 12 (.k (.int .i64 3))),p 22 (.mov 23)]) (.cond 22 (.seq (.reg [p 24 (.mov 1),p 25 (.bin .eql 24 (.k (.int .i64 2))),
 p 4 (.mov 25)]) .ret) (.seq (.reg [p 27 (.bin .eql 12 (.k (.int .i64 4))),p 26 (.mov 27)]) (.cond 26 (.seq (.reg [p 28 (.mov 1),p 29 (.bin .eql 28 (.k (.int .i64 3))),p 4 (.mov 29)])
 .ret) (.seq (.reg [p 31 (.bin .eql 12 (.k (.int .i64 5))),p 30 (.mov 31)]) (.cond 30 (.seq (.reg [p 32 (.mov 5),p 33 (.mov 32),pg 34 33 false (.mov 1),pg 35 33 false (.bin .eql
 34 (.k (.int .i64 6))),p 36 (.pick 33 (.k (.bool true)) 35),p 4 (.mov 36)]) .ret) .skip)))))))))))))) (.seq (.keep [1]) (.seq (.reg [p 37 (.mov 1),p 38 (.bin .eql 37 (.k (.int .i64
 2))),p 39 (.mov 38),pg 40 39 false (.mov 1),pg 41 39 false (.bin .eql 40 (.k (.int .i64 3))),p 42 (.pick 39 (.k (.bool true)) 41),p 4 (.mov 42)]) .ret)))))⟩
def object_Compare:MFun:=⟨2,[.t 4,.t 5],(.seq (.reg [n 2 (.box 451 true 0),n 3 (.box 451 true 1),p 4 (.mov (.k (.int .i64 0))),p 5 (.mov (.k (.int .i64 0)))]) (.seq (.seq
 (.reg [r 9 (.load (some 7) 2),w 10 (.call (.k (.fn 326 [] [])) [9]),p 11 (.bin .neq 10 (.k (.int .i64 0))),p 12 (.mov 11),rg 13 12 false (.load (some 7) 3),wg 14 12 false (.call
 (.k (.fn 326 [] [])) [13]),pg 15 12 false (.bin .neq 14 (.k (.int .i64 0))),p 16 (.pick 12 (.k (.bool true)) 15)]) (.seq (.keep [2,3,16]) (.cond 16 (.seq (.reg [p 4 (.mov (.k (.int
 .i64 0))),p 5 (.mov (.k (.int .i64 200)))]) .ret) .skip))) (.seq (.keep [2,3]) (.seq (.reg [r 18 (.load (some 7) 2),w 19 (.call (.k (.fn 391 [] [])) [18]),p 17 (.mov 19),p 20 (.extr
 0 17),p 21 (.extr 1 17),p 6 (.mov 20),p 7 (.mov 21)]) (.seq (.seq (.reg [p 22 (.mov 7),p 23 (.bin .neq 22 (.k (.int .i64 0)))]) (.cond 23 (.seq (.reg [p 24 (.mov 7),p 4 (.mov (.k
 (.int .i64 0))),p 5 (.mov 24)]) .ret) .skip)) (.seq (.reg [r 26 (.load (some 7) 3),w 27 (.call (.k (.fn 391 [] [])) [26]),p 25 (.mov 27),p 28 (.extr 0 25),p 29 (.extr 1 25),p
 8 (.mov 28),p 7 (.mov 29)]) (.seq (.block 0 (.seq (.reg [p 31 (.mov 7),p 32 (.bin .neq 31 (.k (.int .i64 0))),p 30 (.mov 32)]) (.cond 30 (.seq (.reg [p 33 (.mov 7),p 4 (.mov (.k
 (.int .i64 0))),p 5 (.mov 33)]) .ret) (.seq (.reg [p 35 (.mov 6),p 36 (.mov 8),p 37 (.bin .lss 35 36),p 34 (.mov 37)]) (.cond 34 (.seq (.reg [p 4 (.mov (.k (.int .i64 (-1)))),p
 5 (.mov (.k (.int .i64 0)))]) .ret) (.seq (.reg [p 39 (.mov 6),p 40 (.mov 8),p 41 (.bin .gtr 39 40),p 38 (.mov 41)]) (.cond 38 (.seq (.reg [p 4 (.mov (.k (.int .i64 1))),p 5 (.mov
 (.k (.int .i64 0)))]) .ret) .skip))))))) (.seq (.keep []) (.seq (.reg [p 4 (.mov (.k (.int .i64 0))),p 5 (.mov (.k (.int .i64 0)))]) .ret)))))))))⟩
def logic_judge_result:MFun:=⟨3,[.cell 6 (some 67),.t 7],(.seq (.reg [n 3 (.box 493 true 0),n 5 (.box 451 true 2),n 6 (.alloc 457 true z457),p 7 (.mov (.k (.int .i64 0)))])
 (.seq (.reg [p 12 (.faddr 0 3),r 13 (.load (some 67) 12),p 14 (.mov 1),w 15 (.call (.k (.fn 419 [] [])) [13,14]),p 11 (.mov 15),p 16 (.extr 0 11),p 17 (.extr 1 11),n 8 (.alloc
 457 true z457),w0 (.store 67 8 16),p 9 (.mov 17)]) (.seq (.keep [3,5,6,8,9]) (.seq (.seq (.reg [p 18 (.mov 9),p 19 (.bin .neq 18 (.k (.int .i64 0)))]) (.cond 19 (.seq (.reg [p
 20 (.faddr 0 3),r 21 (.load (some 67) 20),p 22 (.mov 9),w0 (.store 67 6 21),p 7 (.mov 22)]) .ret) .skip)) (.seq (.reg [r 24 (.load (some 67) 8),r 25 (.load (some 7) 5),n 26 (.buildSl
 451 1 zOb [(0,7,25)]),w 27 (.call (.k (.fn 344 [] [])) [24,26]),p 23 (.mov 27),p 28 (.extr 0 23),p 29 (.extr 1 23),n 10 (.alloc 457 true z457),w0 (.store 67 10 28),p 9 (.mov
 29)]) (.seq (.keep [3,6,9,10]) (.seq (.seq (.reg [p 30 (.mov 9),p 31 (.bin .neq 30 (.k (.int .i64 0)))]) (.cond 31 (.seq (.reg [p 32 (.faddr 0 3),r 33 (.load (some 67) 32),p 34
 (.mov 9),w0 (.store 67 6 33),p 7 (.mov 34)]) .ret) .skip)) (.seq (.reg [r 35 (.load (some 67) 10),w0 (.store 67 6 35),p 7 (.mov (.k (.int .i64 0)))]) .ret))))))))⟩
def heap_Equal:MFun:=⟨3,[.t 6],(.seq (.reg [n 4 (.box 451 true 1),n 5 (.box 451 true 2),p 6 (.mov (.k (.bool false)))]) (.seq (.seq (.reg [p 13 (.mov 0),r 14 (.load (some 7)
 4),w 15 (.call (.k (.fn 304 [] [])) [13,14]),p 16 (.un .not 15),p 17 (.mov 16),pg 18 17 false (.mov 0),rg 19 17 false (.load (some 7) 5),wg 20 17 false (.call (.k (.fn 304 []
 [])) [18,19]),pg 21 17 false (.un .not 20),p 22 (.pick 17 (.k (.bool true)) 21)]) (.seq (.keep [0,4,5,22]) (.cond 22 (.seq (.reg [p 6 (.mov (.k (.bool false)))]) .ret) .skip)))
 (.seq (.keep [0,4,5]) (.seq (.seq (.reg [r 24 (.load (some 7) 4),r 25 (.load (some 7) 5),w 26 (.call (.k (.fn 385 [] [])) [24,25]),p 23 (.mov 26),p 27 (.extr 0 23),p 28 (.extr
 1 23),p 7 (.mov 27),p 8 (.mov 28)]) (.seq (.keep [0,4,5,7,8]) (.seq (.reg [p 29 (.mov 8),p 30 (.bin .eql 29 (.k (.int .i64 0)))]) (.cond 30 (.seq (.reg [p 31 (.mov 7),p 32 (.bin
 .eql 31 (.k (.int .i64 0))),p 6 (.mov 32)]) .ret) .skip)))) (.seq (.keep [0,4,5]) (.seq (.reg [p 34 (.mov 0),r 35 (.load (some 7) 4),w 36 (.call (.k (.fn 420 [] [])) [34,35]),
 p 33 (.mov 36),p 37 (.extr 0 33),p 38 (.extr 1 33),p 9 (.mov 37),p 10 (.mov 38)]) (.seq (.keep [0,4,5,9,10]) (.seq (.reg [p 40 (.mov 0),r 41 (.load (some 7) 5),w 42 (.call
 (.k (.fn 420 [] [])) [40,41]),p 39 (.mov 42),p 43 (.extr 0 39),p 44 (.extr 1 39),p 11 (.mov 43),p 12 (.mov 44)]) (.seq (.keep [4,5,9,10,11,12]) (.seq (.seq (.reg [p 45 (.mov
 10),p 46 (.mov 45),pg 47 46 true (.mov 12),p 48 (.pick 46 47 (.k (.bool false)))]) (.cond 48 (.seq (.reg [p 49 (.mov 9),p 50 (.mov 11),p 51 (.bin .eql 49 50),p 6 (.mov 51)]) .ret)
 .skip)) (.seq (.keep [4,5]) (.seq (.reg [p 52 (.faddr 1 5),r 53 (.load none 52),p 54 (.faddr 1 4),w0 (.store 1 54 53)]) (.seq (.reg [r 55 (.load (some 7) 4),r 56 (.load (some 7)
 5),p 57 (.eqA false [(.i .i64),.b,(.i .i64),.s,(.i .i64),(.i .i64),(.i .i64)] 55 56),p 6 (.mov 57)]) .ret)))))))))))))⟩
def object_Name:MFun:=⟨2,[.cell 4 (some 7),.t 5],(.seq (.reg [n 3 (.box 4 true 1),n 4 (.alloc 451 true zOb),p 5 (.mov (.k (.int .i64 0)))]) (.seq (.reg [p 6 (.mov 0),p 7 (.mkfn
 421 [] [3]),w 8 (.call (.k (.fn 422 [] [])) [6,7]),p 9 (.extr 0 8),p 10 (.extr 1 8),w0 (.store 7 4 9),p 5 (.mov 10)]) .ret))⟩
def logic_executable_1:MFun:=⟨2,[.cell 3 (some 7),.t 4],(.seq (.reg [n 2 (.box 451 true 0),n 3 (.alloc 451 true zOb),p 4 (.mov (.k (.int .i64 0)))]) (.seq (.reg [r 5 (.load
 none 1),p 6 (.faddr 1 2),w0 (.store 1 6 5)]) (.seq (.reg [r 7 (.load (some 7) 2),w0 (.store 7 3 7),p 4 (.mov (.k (.int .i64 0)))]) .ret)))⟩
def logic_converted_api_Obj_1:MFun:=⟨3,[.cell 4 (some 7),.t 5],(.seq (.reg [n 3 (.box 451 true 0),n 4 (.alloc 451 true zOb),p 5 (.mov (.k (.int .i64 0)))]) (.seq (.reg [r 10
 (.load (some 67) 1),r 11 (.load (some 7) 3),w 12 (.call (.k (.fn 423 [] [])) [10,11]),p 9 (.mov 12),p 13 (.extr 0 9),p 14 (.extr 1 9),n 6 (.alloc 451 true zOb),w0 (.store 7
 6 13),p 7 (.mov 14)]) (.seq (.keep [2,4,6,7]) (.seq (.seq (.reg [p 15 (.mov 7),p 16 (.bin .neq 15 (.k (.int .i64 0)))]) (.cond 16 (.seq (.reg [p 17 (.build zOb []),p 18 (.mov
 7),w0 (.store 7 4 17),p 5 (.mov 18)]) .ret) .skip)) (.seq (.reg [r 20 (.load none 2),r 21 (.load (some 7) 6),w 22 (.call 20 [21]),p 19 (.mov 22),p 23 (.extr 0 19),p 24 (.extr
 1 19),n 8 (.alloc 451 true zOb),w0 (.store 7 8 23),p 7 (.mov 24)]) (.seq (.keep [4,7,8]) (.seq (.reg [r 25 (.load (some 7) 8),p 26 (.mov 7),w0 (.store 7 4 25),p 5 (.mov 26)])
 .ret)))))))⟩
def object_Value:MFun:=⟨1,[.t 2,.t 3],(.seq (.reg [n 1 (.box 451 true 0),p 2 (.mov (.k (.int .i64 0))),p 3 (.mov (.k (.int .i64 0)))]) (.seq (.reg [r 7 (.load (some 7) 1),
 w 8 (.call (.k (.fn 424 [] [])) [7]),p 6 (.mov 8),p 9 (.extr 0 6),p 10 (.extr 1 6),n 4 (.alloc 569 true zOb),w0 (.store 7 4 9),p 5 (.mov 10)]) (.seq (.keep [4,5]) (.seq (.seq
 (.reg [p 11 (.mov 5),p 12 (.bin .neq 11 (.k (.int .i64 0)))]) (.cond 12 (.seq (.reg [p 13 (.mov 5),p 2 (.mov (.k (.int .i64 0))),p 3 (.mov 13)]) .ret) .skip)) (.seq (.reg [r 14 (.load
 (some 7) 4),w 15 (.call (.k (.fn 425 [] [])) [14]),p 2 (.mov 15),p 3 (.mov (.k (.int .i64 0)))]) .ret)))))⟩
def object_Int:MFun:=⟨1,[.cell 2 (some 7),.t 3],(.seq (.reg [n 2 (.alloc 451 true zOb),p 3 (.mov (.k (.int .i64 0)))]) (.seq (.reg [p 4 (.mov 0),w 5 (.call (.k (.fn 426 []
 [])) [4,(.k (.fn 427 [] []))]),p 6 (.extr 0 5),p 7 (.extr 1 5),w0 (.store 7 2 6),p 3 (.mov 7)]) .ret))⟩
def object_Real:MFun:=⟨1,[.cell 2 (some 7),.t 3],(.seq (.reg [n 2 (.alloc 451 true zOb),p 3 (.mov (.k (.int .i64 0)))]) (.seq (.reg [p 4 (.mov 0),w 5 (.call (.k (.fn 426 []
 [])) [4,(.k (.fn 428 [] []))]),p 6 (.extr 0 5),p 7 (.extr 1 5),w0 (.store 7 2 6),p 3 (.mov 7)]) .ret))⟩
def logic_judge_put:MFun:=⟨4,[.cell 8 (some 67),.t 9],(.seq (.reg [n 4 (.box 493 true 0),n 7 (.box 451 true 3),n 8 (.alloc 457 true z457),p 9 (.mov (.k (.int .i64 0)))]) (.seq
 (.reg [r 15 (.load (some 7) 7),p 16 (.mov 2),p 17 (.lenOf true 16),w 18 (.call (.k (.fn 429 [] [])) [15,(.k (.int .i64 0)),17]),p 14 (.mov 18),p 19 (.extr 0 14),p 20 (.extr
 1 14),n 10 (.alloc 451 true zOb),w0 (.store 7 10 19),p 11 (.mov 20)]) (.seq (.keep [1,2,4,7,8,10,11]) (.seq (.seq (.reg [p 21 (.mov 11),p 22 (.bin .neq 21 (.k (.int .i64 0)))])
 (.cond 22 (.seq (.reg [p 23 (.faddr 0 4),r 24 (.load (some 67) 23),p 25 (.mov 11),w0 (.store 67 8 24),p 9 (.mov 25)]) .ret) .skip)) (.seq (.reg [p 27 (.faddr 0 4),p 28 (.faddr
 2 27),r 29 (.load none 28),r 30 (.load (some 7) 7),p 31 (.mov 2),w 32 (.call (.k (.fn 430 [] [])) [29,30,(.k (.int .i64 0)),31]),p 26 (.mov 32),p 33 (.extr 0 26),p 34 (.extr
 1 26),p 12 (.mov 33),p 11 (.mov 34)]) (.seq (.keep [1,4,8,10,11,12]) (.seq (.seq (.reg [p 35 (.mov 11),p 36 (.bin .neq 35 (.k (.int .i64 0)))]) (.cond 36 (.seq (.reg [p 37 (.faddr
 0 4),r 38 (.load (some 67) 37),p 39 (.mov 11),w0 (.store 67 8 38),p 9 (.mov 39)]) .ret) .skip)) (.seq (.reg [r 41 (.load (some 67) 4),p 42 (.mov 1),r 43 (.load (some 7) 10),w
 44 (.call (.k (.fn 386 [] [])) [41,42,43]),p 40 (.mov 44),p 45 (.extr 0 40),p 46 (.extr 1 40),n 13 (.alloc 457 true z457),w0 (.store 67 13 45),p 11 (.mov 46)]) (.seq (.keep
 [8,11,12,13]) (.seq (.seq (.reg [p 47 (.mov 11),p 48 (.bin .eql 47 (.k (.int .i64 0)))]) (.cond 48 (.reg [p 49 (.mov 12),p 50 (.faddr 2 13),w0 (.store 1 50 49)]) .skip)) (.seq
 (.reg [r 51 (.load (some 67) 13),p 52 (.mov 11),w0 (.store 67 8 51),p 9 (.mov 52)]) .ret)))))))))))⟩
def strconv_FormatUint:MFun:=⟨2,[.t 4],(.seq (.reg [p 4 (.mov (.k (.str [])))]) (.seq (.reg [p 5 (.mov 0),p 6 (.mov 1),w 7 (.call (.k (.fn 431 [] [])) [5,6]),p 4 (.mov 7)])
 .ret))⟩
def heap_viewOf:MFun:=⟨3,[.cell 6 (some 8),.t 7],(.seq (.reg [n 4 (.box 451 true 1),n 6 (.alloc 554 true [.nilslice,(.int .i64 0),(.bool false),(.int .i64 0),(.str []),
 (.int .i64 0),(.int .i64 0),(.int .i64 0)]),p 7 (.mov (.k (.int .i64 0)))]) (.seq (.seq (.reg [p 8 (.mov 0),r 9 (.load (some 7) 4),w 10 (.call (.k (.fn 304 [] [])) [8,9]),p 11
 (.un .not 10)]) (.cond 11 (.seq (.reg [p 12 (.build [.nilslice,(.int .i64 0),(.bool false),(.int .i64 0),(.str []),(.int .i64 0),(.int .i64 0),(.int .i64 0)] []),w0 (.store
 8 6 12),p 7 (.mov (.k (.int .i64 2)))]) .ret) .skip)) (.seq (.seq (.reg [p 13 (.mov 2),p 14 (.faddr 0 4),r 15 (.load none 14),w 16 (.call (.k (.fn 432 [] [])) [13,15]),p 17 (.un
 .not 16)]) (.cond 17 (.seq (.reg [p 18 (.build [.nilslice,(.int .i64 0),(.bool false),(.int .i64 0),(.str []),(.int .i64 0),(.int .i64 0),(.int .i64 0)] []),w0 (.store 8 6 18),
 p 7 (.mov (.k (.int .i64 22)))]) .ret) .skip)) (.seq (.keep [0,4,6]) (.seq (.reg [p 19 (.mov 0),p 20 (.build [.nilslice] [(0,1,19)]),r 21 (.load (some 7) 4),p 22 (.build [.nilslice,
 (.int .i64 0),(.bool false),(.int .i64 0),(.str []),(.int .i64 0),(.int .i64 0),(.int .i64 0)] [(0,1,20),(1,7,21)]),w0 (.store 8 6 22),p 7 (.mov (.k (.int .i64 0)))]) .ret)))))⟩
def heap_view_cell:MFun:=⟨1,[.cell 2 (some 7)],(.seq (.reg [n 1 (.box 554 true 0),n 2 (.alloc 486 true zCe)]) (.seq (.reg [p 3 (.faddr 0 1),p 4 (.faddr 0 3),r 5 (.load none
 4),p 6 (.faddr 1 1),p 7 (.faddr 4 6),r 8 (.load none 7),p 9 (.iaddrS 7 5 8),r 10 (.load (some 7) 9),w0 (.store 7 2 10)]) .ret))⟩
def chaseref11_SameCell:MFun:=⟨2,[.t 4],(.seq (.reg [n 2 (.box 486 true 0),n 3 (.box 486 true 1),p 4 (.mov (.k (.bool false)))]) (.seq (.reg [p 5 (.faddr 0 2),r 6 (.load none
 5),p 7 (.faddr 0 3),r 8 (.load none 7),p 9 (.bin .eql 6 8),p 10 (.mov 9),pg 11 10 true (.faddr 1 2),rg 12 10 true (.load none 11),pg 13 10 true (.faddr 1 3),rg 14 10 true (.load
 none 13),pg 15 10 true (.bin .eql 12 14),p 16 (.pick 10 15 (.k (.bool false))),p 17 (.mov 16),pg 18 17 true (.faddr 2 2),rg 19 17 true (.load none 18),pg 20 17 true (.faddr 2
 3),rg 21 17 true (.load none 20),wg 22 17 true (.call (.k (.fn 360 [] [])) [19,21]),p 23 (.pick 17 22 (.k (.bool false))),p 24 (.mov 23),pg 25 24 true (.faddr 3 2),rg 26 24 true
 (.load none 25),pg 27 24 true (.faddr 3 3),rg 28 24 true (.load none 27),wg 29 24 true (.call (.k (.fn 360 [] [])) [26,28]),p 30 (.pick 24 29 (.k (.bool false))),p 31 (.mov 30),
 pg 32 31 true (.faddr 4 2),rg 33 31 true (.load none 32),pg 34 31 true (.faddr 4 3),rg 35 31 true (.load none 34),wg 36 31 true (.call (.k (.fn 360 [] [])) [33,35]),p 37 (.pick
 31 36 (.k (.bool false))),p 38 (.mov 37),pg 39 38 true (.faddr 5 2),rg 40 38 true (.load none 39),pg 41 38 true (.faddr 5 3),rg 42 38 true (.load none 41),pg 43 38 true (.bin
 .eql 40 42),p 44 (.pick 38 43 (.k (.bool false))),p 45 (.mov 44),pg 46 45 true (.faddr 6 2),rg 47 45 true (.load none 46),pg 48 45 true (.faddr 6 3),rg 49 45 true (.load none
 48),pg 50 45 true (.bin .eql 47 49),p 51 (.pick 45 50 (.k (.bool false))),p 4 (.mov 51)]) .ret))⟩
def logic_printed:MFun:=⟨1,[.t 2],(.seq (.reg [p 2 (.mov (.k (.str [])))]) (.seq (.reg [p 6 (.mov 0),w 7 (.call (.k (.fn 133 [] [])) [6]),p 5 (.mov 7),p 8 (.extr 0 5),p 9
 (.extr 1 5),p 3 (.mov 8),p 4 (.mov 9)]) (.seq (.reg [p 10 (.mov 3),p 2 (.mov 10)]) .ret)))⟩
def object_kind_longest:MFun:=⟨1,[.t 2],(.seq (.reg [n 1 (.box 532 true 0),p 2 (.mov (.k (.int .i64 0)))]) (.seq (.reg [p 3 (.build [(.int .i64 0),(.int .i64 0),(.int .i64
 0),(.int .i64 0)] [(0,1,(.k (.int .i64 0))),(1,1,(.k (.int .i64 1000))),(2,1,(.k (.int .i64 1000))),(3,1,(.k (.int .i64 0)))]),p 4 (.faddr 5 1),r 5 (.load none 4),p 6
 (.idxA 4 1 none 3 5),p 2 (.mov 6)]) .ret))⟩
def stack_Top:MFun:=⟨2,[.t 4,.t 5],(.seq (.reg [n 2 (.box 457 true 0),p 4 (.mov (.k .nilslice)),p 5 (.mov (.k (.int .i64 0)))]) (.seq (.seq (.reg [p 6 (.mov 1),p 7 (.bin .lss
 6 (.k (.int .i64 0)))]) (.cond 7 (.seq (.reg [p 4 (.mov (.k .nilslice)),p 5 (.mov (.k (.int .i64 2)))]) .ret) .skip)) (.seq (.seq (.reg [p 8 (.mov 1),p 9 (.faddr 0 2),r 10 (.load
 none 9),p 11 (.lenOf false 10),p 12 (.bin .gtr 8 11)]) (.cond 12 (.seq (.reg [p 4 (.mov (.k .nilslice)),p 5 (.mov (.k (.int .i64 20)))]) .ret) .skip)) (.seq (.reg [p 13 (.faddr 0
 2),r 14 (.load none 13),p 15 (.faddr 0 2),r 16 (.load none 15),p 17 (.lenOf false 16),p 18 (.mov 1),p 19 (.bin .sub 17 18),p 20 (.faddr 0 2),r 21 (.load none 20),p 22 (.lenOf
 false 21),p 23 (.faddr 0 2),r 24 (.load none 23),p 25 (.lenOf false 24),p 26 (.subL 7 14 (some 19) (some 22) (some 25)),p 4 (.mov 26),p 5 (.mov (.k (.int .i64 0)))]) .ret))))⟩
def stack_Drop:MFun:=⟨2,[.cell 4 (some 67),.t 5],(.seq (.reg [n 2 (.box 457 true 0),n 4 (.alloc 457 true z457),p 5 (.mov (.k (.int .i64 0)))]) (.seq (.seq (.reg [p 6 (.mov
 1),p 7 (.bin .lss 6 (.k (.int .i64 0)))]) (.cond 7 (.seq (.reg [r 8 (.load (some 67) 2),w0 (.store 67 4 8),p 5 (.mov (.k (.int .i64 2)))]) .ret) .skip)) (.seq (.seq (.reg [p 9 (.mov
 1),p 10 (.faddr 0 2),r 11 (.load none 10),p 12 (.lenOf false 11),p 13 (.bin .gtr 9 12)]) (.cond 13 (.seq (.reg [r 14 (.load (some 67) 2),w0 (.store 67 4 14),p 5 (.mov (.k (.int
 .i64 20)))]) .ret) .skip)) (.seq (.keep [1,2,4]) (.seq (.reg [p 15 (.faddr 0 2),r 16 (.load none 15),p 17 (.faddr 0 2),r 18 (.load none 17),p 19 (.lenOf false 18),p 20 (.mov
 1),p 21 (.bin .sub 19 20),p 22 (.faddr 0 2),r 23 (.load none 22),p 24 (.lenOf false 23),p 25 (.mov 1),p 26 (.bin .sub 24 25),p 27 (.subL 7 16 none (some 21) (some 26)),p 28
 (.faddr 0 2),w0 (.store 1 28 27)]) (.seq (.keep [2,4]) (.seq (.reg [r 29 (.load (some 67) 2),w0 (.store 67 4 29),p 5 (.mov (.k (.int .i64 0)))]) .ret)))))))⟩
def heap_octets:MFun:=⟨2,[.t 4,.t 5],(.seq (.reg [n 3 (.box 451 true 1),p 4 (.mov (.k (.str []))),p 5 (.mov (.k (.bool false)))]) (.seq (.seq (.reg [p 8 (.faddr 0 3),r 9 (.load
 none 8),p 10 (.bin .eql 9 (.k (.int .i64 5)))]) (.cond 10 (.seq (.reg [p 11 (.faddr 3 3),r 12 (.load none 11),p 4 (.mov 12),p 5 (.mov (.k (.bool true)))]) .ret) .skip)) (.seq (.reg
 [p 14 (.mov 0),r 15 (.load (some 7) 3),w 16 (.call (.k (.fn 357 [] [])) [14,15]),p 13 (.mov 16),p 17 (.extr 0 13),p 18 (.extr 1 13),p 6 (.mov 17),p 7 (.mov 18)]) (.seq (.keep
 [6,7]) (.seq (.reg [p 19 (.mov 6),p 20 (.mov 7),p 21 (.bin .eql 20 (.k (.int .i64 0))),p 4 (.mov 19),p 5 (.mov 21)]) .ret)))))⟩
def object_Name_1:MFun:=⟨2,[.cell 3 (some 7)],(.seq (.reg [n 3 (.alloc 451 true zOb)]) (.seq (.reg [p 4 (.mov 0),r 5 (.load none 1),p 6 (.build zOb [(0,1,(.k (.int .i64 5))),
 (3,1,4),(1,1,5)]),w0 (.store 7 3 6)]) .ret))⟩
def object_made_string:MFun:=⟨2,[.cell 4 (some 7),.t 5],(.seq (.reg [n 4 (.alloc 451 true zOb),p 5 (.mov (.k (.int .i64 0)))]) (.seq (.reg [p 7 (.mov 1),p 8 (.mov 0),w 9 (.call
 7 [8]),n 6 (.alloc 451 true zOb),w0 (.store 7 6 9)]) (.seq (.seq (.reg [r 10 (.load (some 7) 6),w 11 (.call (.k (.fn 326 [] [])) [10]),p 12 (.bin .neq 11 (.k (.int .i64 0)))]) (.cond
 12 (.seq (.reg [p 13 (.build zOb []),w0 (.store 7 4 13),p 5 (.mov (.k (.int .i64 2)))]) .ret) .skip)) (.seq (.reg [r 14 (.load (some 7) 6),w0 (.store 7 4 14),p 5 (.mov (.k (.int
 .i64 0)))]) .ret))))⟩
def logic_judge_number:MFun:=⟨2,[.cell 4 (some 7),.t 5],(.seq (.reg [n 2 (.box 493 true 0),n 3 (.box 451 true 1),n 4 (.alloc 451 true zOb),p 5 (.mov (.k (.int .i64 0)))])
 (.seq (.seq (.reg [p 10 (.faddr 0 3),r 11 (.load none 10),p 12 (.bin .neq 11 (.k (.int .i64 6)))]) (.cond 12 (.seq (.reg [r 13 (.load (some 7) 3),w0 (.store 7 4 13),p 5 (.mov (.k
 (.int .i64 0)))]) .ret) .skip)) (.seq (.reg [p 15 (.faddr 0 2),p 16 (.faddr 2 15),r 17 (.load none 16),r 18 (.load (some 7) 3),w 19 (.call (.k (.fn 357 [] [])) [17,18]),p 14 (.mov
 19),p 20 (.extr 0 14),p 21 (.extr 1 14),p 6 (.mov 20),p 7 (.mov 21)]) (.seq (.keep [4,6]) (.seq (.reg [p 23 (.mov 6),w 24 (.call (.k (.fn 63 [] [])) [23]),p 22 (.mov 24),p 25
 (.extr 0 22),p 26 (.extr 1 22),n 8 (.alloc 134 true [(.int .i64 0),(.int .i64 0),(.str [])]),w0 (.store 3 8 25),p 9 (.mov 26)]) (.seq (.keep [4,8,9]) (.seq (.block 0 (.seq (.reg
 [p 28 (.mov 9),p 29 (.bin .eql 28 (.k (.int .i64 5))),p 27 (.mov 29)]) (.cond 27 (.seq (.reg [p 30 (.build zOb []),w0 (.store 7 4 30),p 5 (.mov (.k (.int .i64 22)))]) .ret) (.seq
 (.reg [p 32 (.mov 9),p 33 (.bin .neq 32 (.k (.int .i64 0))),p 31 (.mov 33)]) (.cond 31 (.seq (.reg [p 34 (.build zOb []),w0 (.store 7 4 34),p 5 (.mov (.k (.int .i64 23)))]) .ret)
 (.seq (.reg [p 36 (.faddr 0 8),r 37 (.load none 36),p 38 (.bin .eql 37 (.k (.int .i64 2))),p 35 (.mov 38)]) (.cond 35 (.seq (.reg [p 39 (.faddr 1 8),r 40 (.load none 39),w 41 (.call
 (.k (.fn 393 [] [])) [40]),p 42 (.extr 0 41),p 43 (.extr 1 41),w0 (.store 7 4 42),p 5 (.mov 43)]) .ret) .skip))))))) (.seq (.keep [4,8]) (.seq (.reg [p 44 (.faddr 1 8),r 45 (.load
 none 44),w 46 (.call (.k (.fn 392 [] [])) [45]),p 47 (.extr 0 46),p 48 (.extr 1 46),w0 (.store 7 4 47),p 5 (.mov 48)]) .ret)))))))))⟩
def object_numberOf:MFun:=⟨1,[.cell 2 (some 7),.t 3],(.seq (.reg [n 1 (.box 451 true 0),n 2 (.alloc 569 true zOb),p 3 (.mov (.k (.int .i64 0)))]) (.seq (.seq (.reg [r 5 (.load
 (some 7) 1),w 6 (.call (.k (.fn 326 [] [])) [5]),p 4 (.mov 6)]) (.seq (.reg [p 7 (.mov 4),p 8 (.bin .neq 7 (.k (.int .i64 0)))]) (.cond 8 (.seq (.reg [p 9 (.build zOb []),p 10 (.mov
 4),w0 (.store 7 2 9),p 3 (.mov 10)]) .ret) .skip))) (.seq (.keep [1,2]) (.seq (.seq (.reg [p 11 (.faddr 0 1),r 12 (.load none 11),p 13 (.bin .neq 12 (.k (.int .i64 3))),p 14 (.mov
 13),pg 15 14 true (.faddr 0 1),rg 16 14 true (.load none 15),pg 17 14 true (.bin .neq 16 (.k (.int .i64 4))),p 18 (.pick 14 17 (.k (.bool false)))]) (.seq (.keep [1,2,18]) (.cond
 18 (.seq (.reg [p 19 (.build zOb []),w0 (.store 7 2 19),p 3 (.mov (.k (.int .i64 22)))]) .ret) .skip))) (.seq (.keep [1,2]) (.seq (.reg [r 20 (.load (some 7) 1),p 21 (.build zOb
 [(0,7,20)]),w0 (.store 7 2 21),p 3 (.mov (.k (.int .i64 0)))]) .ret))))))⟩
def object_number_value:MFun:=⟨1,[.t 2],(.seq (.reg [n 1 (.box 569 true 0),p 2 (.mov (.k (.int .i64 0)))]) (.seq (.seq (.reg [p 3 (.faddr 0 1),p 4 (.faddr 0 3),r 5 (.load none
 4),p 6 (.bin .eql 5 (.k (.int .i64 3)))]) (.cond 6 (.seq (.reg [p 7 (.faddr 0 1),p 8 (.faddr 2 7),r 9 (.load none 8),p 10 (.bin .mul 9 (.k (.int .i64 65536))),p 2 (.mov 10)]) .ret)
 .skip)) (.seq (.keep [1]) (.seq (.reg [p 11 (.faddr 0 1),p 12 (.faddr 2 11),r 13 (.load none 12),p 2 (.mov 13)]) .ret))))⟩
def object_made_int:MFun:=⟨2,[.cell 4 (some 7),.t 5],(.seq (.reg [n 4 (.alloc 451 true zOb),p 5 (.mov (.k (.int .i64 0)))]) (.seq (.reg [p 7 (.mov 1),p 8 (.mov 0),w 9 (.call
 7 [8]),n 6 (.alloc 451 true zOb),w0 (.store 7 6 9)]) (.seq (.seq (.reg [r 10 (.load (some 7) 6),w 11 (.call (.k (.fn 326 [] [])) [10]),p 12 (.bin .neq 11 (.k (.int .i64 0)))]) (.cond
 12 (.seq (.reg [p 13 (.build zOb []),w0 (.store 7 4 13),p 5 (.mov (.k (.int .i64 2)))]) .ret) .skip)) (.seq (.reg [r 14 (.load (some 7) 6),w0 (.store 7 4 14),p 5 (.mov (.k (.int
 .i64 0)))]) .ret))))⟩
def object_Int_1:MFun:=⟨1,[.cell 2 (some 7)],(.seq (.reg [n 2 (.alloc 451 true zOb)]) (.seq (.reg [p 3 (.mov 0),p 4 (.build zOb [(0,1,(.k (.int .i64 3))),(2,1,3)]),w0 (.store
 7 2 4)]) .ret))⟩
def object_Real_1:MFun:=⟨1,[.cell 2 (some 7)],(.seq (.reg [n 2 (.alloc 451 true zOb)]) (.seq (.reg [p 3 (.mov 0),p 4 (.build zOb [(0,1,(.k (.int .i64 4))),(2,1,3)]),w0
 (.store 7 2 4)]) .ret))⟩
def heap_Interval:MFun:=⟨3,[.cell 6 (some 7),.t 7],(.seq (.reg [n 3 (.box 451 true 0),n 6 (.alloc 451 true zOb),p 7 (.mov (.k (.int .i64 0)))]) (.seq (.seq (.reg [r 8 (.load
 (some 7) 3),w 9 (.call (.k (.fn 326 [] [])) [8]),p 10 (.bin .neq 9 (.k (.int .i64 0)))]) (.cond 10 (.seq (.reg [p 11 (.build zOb []),w0 (.store 7 6 11),p 7 (.mov (.k (.int .i64
 2)))]) .ret) .skip)) (.seq (.seq (.reg [p 12 (.faddr 0 3),r 13 (.load none 12),p 14 (.bin .neq 13 (.k (.int .i64 6))),p 15 (.mov 14),pg 16 15 true (.faddr 0 3),rg 17 15 true (.load
 none 16),pg 18 15 true (.bin .neq 17 (.k (.int .i64 7))),p 19 (.pick 15 18 (.k (.bool false))),p 20 (.mov 19),pg 21 20 true (.faddr 0 3),rg 22 20 true (.load none 21),pg 23 20
 true (.bin .neq 22 (.k (.int .i64 8))),p 24 (.pick 20 23 (.k (.bool false)))]) (.seq (.keep [1,2,3,6,24]) (.cond 24 (.seq (.reg [p 25 (.build zOb []),w0 (.store 7 6 25),p 7 (.mov
 (.k (.int .i64 22)))]) .ret) .skip))) (.seq (.keep [1,2,3,6]) (.seq (.seq (.reg [p 26 (.mov 1),p 27 (.bin .lss 26 (.k (.int .i64 0))),p 28 (.mov 27),pg 29 28 false (.mov 2),pg
 30 28 false (.bin .lss 29 (.k (.int .i64 0))),p 31 (.pick 28 (.k (.bool true)) 30),p 32 (.mov 31),pg 33 32 false (.mov 1),pg 34 32 false (.faddr 6 3),rg 35 32 false (.load none
 34),pg 36 32 false (.bin .gtr 33 35),p 37 (.pick 32 (.k (.bool true)) 36),p 38 (.mov 37),pg 39 38 false (.mov 2),pg 40 38 false (.faddr 6 3),rg 41 38 false (.load none 40),pg
 42 38 false (.mov 1),pg 43 38 false (.bin .sub 41 42),pg 44 38 false (.bin .gtr 39 43),p 45 (.pick 38 (.k (.bool true)) 44)]) (.seq (.keep [1,2,3,6,45]) (.cond 45 (.seq (.reg
 [p 46 (.build zOb []),w0 (.store 7 6 46),p 7 (.mov (.k (.int .i64 23)))]) .ret) .skip))) (.seq (.keep [1,2,3,6]) (.seq (.reg [p 47 (.faddr 5 3),r 48 (.load none 47),p 49 (.mov
 1),p 50 (.bin .add 48 49),p 51 (.mov 2),p 52 (.faddr 5 3),w0 (.store 1 52 50),p 53 (.faddr 6 3),w0 (.store 1 53 51)]) (.seq (.keep [3,6]) (.seq (.reg [r 54 (.load (some 7) 3),
 w0 (.store 7 6 54),p 7 (.mov (.k (.int .i64 0)))]) .ret)))))))))⟩
def heap_PutBytes:MFun:=⟨4,[.t 8,.t 9],(.seq (.reg [n 5 (.box 451 true 1),p 8 (.mov (.k .nilslice)),p 9 (.mov (.k (.int .i64 0)))]) (.seq (.reg [p 14 (.mov 0),r 15 (.load
 (some 7) 5),n 16 (.buildSl 3 1 [(.int .i64 0)] [(0,1,(.k (.int .i64 6)))]),w 17 (.call (.k (.fn 400 [] [])) [14,15,16]),p 13 (.mov 17),p 18 (.extr 0 13),p 19 (.extr 1 13),
 n 10 (.alloc 554 true [.nilslice,(.int .i64 0),(.bool false),(.int .i64 0),(.str []),(.int .i64 0),(.int .i64 0),(.int .i64 0)]),w0 (.store 8 10 18),p 11 (.mov 19)]) (.seq
 (.keep [2,3,5,10,11]) (.seq (.seq (.reg [p 20 (.mov 11),p 21 (.bin .eql 20 (.k (.int .i64 0)))]) (.cond 21 (.reg [r 22 (.load (some 8) 10),p 23 (.mov 2),p 24 (.mov 3),p 25 (.lenOf
 true 24),w 26 (.call (.k (.fn 439 [] [])) [22,23,25]),p 11 (.mov 26)]) .skip)) (.seq (.keep [2,3,5,10,11]) (.seq (.seq (.reg [p 27 (.mov 11),p 28 (.bin .neq 27 (.k (.int .i64
 0)))]) (.cond 28 (.seq (.reg [p 29 (.mov 11),p 8 (.mov (.k .nilslice)),p 9 (.mov 29)]) .ret) .skip)) (.seq (.reg [r 30 (.load (some 8) 10),w 31 (.call (.k (.fn 401 [] [])) [30]),
 n 12 (.alloc 486 true zCe),w0 (.store 7 12 31)]) (.seq (.reg [p 32 (.faddr 1 12),r 33 (.load none 32),n 34 (.s2b 5 33),p 35 (.faddr 5 5),r 36 (.load none 35),p 37 (.mov 2),p
 38 (.bin .add 36 37),p 39 (.mov 3),n 40 (.s2b 5 39),w 41 (.call (.k (.fn 440 [] [])) [34,38,40]),r 42 (.b2s 41),p 43 (.faddr 1 12),w0 (.store 1 43 42)]) (.seq (.keep [10,12])
 (.seq (.reg [r 44 (.load (some 8) 10),r 45 (.load (some 7) 12),w 46 (.call (.k (.fn 441 [] [])) [44,45]),p 8 (.mov 46),p 9 (.mov (.k (.int .i64 0)))]) .ret))))))))))⟩
def istrconv_FormatUint:MFun:=⟨2,[.t 4],(.seq (.reg [p 4 (.mov (.k (.str [])))]) (.seq (.seq (.reg [p 9 (.mov 1),p 10 (.bin .eql 9 (.k (.int .i64 10)))]) (.cond 10 (.seq (.seq
 (.reg [p 11 (.mov 0),p 12 (.bin .lss 11 (.k (.int .u64 100)))]) (.cond 12 (.seq (.reg [p 13 (.mov 0),p 14 (.conv .i64 13),w 15 (.call (.k (.fn 442 [] [])) [14]),p 4 (.mov 15)])
 .ret) .skip)) (.seq (.reg [n 5 (.alloc 233 false (List.replicate 24 (.int .u8 0)))]) (.seq (.reg [p 16 (.mov 0),w 17 (.call (.k (.fn 443 [] [])) [16]),p 6 (.mov 17)]) (.seq (.reg
 [p 18 (.mov 6),p 19 (.subA 24 1 5 none (some 18) none),p 20 (.mov 0),w 21 (.call (.k (.fn 444 [] [])) [19,20])]) (.seq (.reg [p 22 (.mov 6),p 23 (.subA 24 1 5 none (some 22) none),
 r 24 (.b2s 23),p 4 (.mov 24)]) .ret))))) .skip)) (.seq (.keep [0,1]) (.seq (.reg [p 26 (.mov 0),p 27 (.mov 1),w 28 (.call (.k (.fn 445 [] [])) [(.k .nilslice),26,27,(.k (.bool
 false)),(.k (.bool false))]),p 25 (.mov 28),p 29 (.extr 0 25),p 30 (.extr 1 25),p 7 (.mov 29),p 8 (.mov 30)]) (.seq (.keep [8]) (.seq (.reg [p 31 (.mov 8),p 4 (.mov 31)]) .ret))))))⟩
def slices_Contains_int_int:MFun:=⟨2,[.t 4],(.seq (.reg [p 4 (.mov (.k (.bool false)))]) (.seq (.reg [p 5 (.mov 0),p 6 (.mov 1),w 7 (.call (.k (.fn 446 [] [])) [5,6]),p 8
 (.bin .geq 7 (.k (.int .i64 0))),p 4 (.mov 8)]) .ret))⟩
def heap_view_room:MFun:=⟨3,[.t 6],(.seq (.reg [n 3 (.box 554 true 0),p 6 (.mov (.k (.int .i64 0)))]) (.seq (.seq (.reg [p 7 (.mov 1),p 8 (.bin .lss 7 (.k (.int .i64 0))),p
 9 (.mov 8),pg 10 9 false (.mov 1),pg 11 9 false (.faddr 1 3),pg 12 9 false (.faddr 6 11),rg 13 9 false (.load none 12),pg 14 9 false (.bin .gtr 10 13),p 15 (.pick 9 (.k (.bool
 true)) 14),p 16 (.mov 15),pg 17 16 false (.mov 2),pg 18 16 false (.faddr 1 3),pg 19 16 false (.faddr 6 18),rg 20 16 false (.load none 19),pg 21 16 false (.mov 1),pg 22 16 false
 (.bin .sub 20 21),pg 23 16 false (.bin .gtr 17 22),p 24 (.pick 16 (.k (.bool true)) 23)]) (.seq (.keep [24]) (.cond 24 (.seq (.reg [p 6 (.mov (.k (.int .i64 23)))]) .ret) .skip)))
 (.seq (.keep []) (.seq (.reg [p 6 (.mov (.k (.int .i64 0)))]) .ret))))⟩
def heap_replaced_byte:MFun:=⟨3,[.t 6],(.seq (.reg [p 6 (.mov (.k .nilslice))]) (.seq (.reg [p 8 (.mov 0),p 9 (.lenOf false 8),n 10 (.mkSl 5 1 1 [(.int .u8 0)] 9 9),p 7 (.mov
 10)]) (.seq (.reg [p 11 (.mov 7),p 12 (.mov 0),w 13 (.copy 1 11 12)]) (.seq (.reg [p 14 (.mov 7),p 15 (.mov 1),p 16 (.subL 1 14 (some 15) none none),p 17 (.mov 2),w 18 (.copy
 1 16 17)]) (.seq (.reg [p 19 (.mov 7),p 6 (.mov 19)]) .ret)))))⟩
def heap_view_with:MFun:=⟨2,[.t 4],(.seq (.reg [n 2 (.box 554 true 0),n 3 (.box 486 true 1),p 4 (.mov (.k .nilslice))]) (.seq (.reg [p 6 (.faddr 0 2),p 7 (.faddr 0 6),r 8
 (.load none 7),p 9 (.lenOf false 8),n 10 (.mkSl 486 7 112 zCe 9 9),p 5 (.mov 10)]) (.seq (.reg [p 11 (.mov 5),p 12 (.faddr 0 2),p 13 (.faddr 0 12),r 14 (.load none 13),w 15 (.copy
 7 11 14)]) (.seq (.reg [p 16 (.mov 5),p 17 (.faddr 1 2),p 18 (.faddr 4 17),r 19 (.load none 18),r 20 (.load (some 7) 3),p 21 (.iaddrS 7 16 19),w0 (.store 7 21 20)]) (.seq (.reg
 [p 22 (.mov 5),p 4 (.mov 22)]) .ret)))))⟩
def strconv_small:MFun:=⟨1,[.t 2],(.seq (.reg [p 2 (.mov (.k (.str [])))]) (.seq (.seq (.reg [p 3 (.mov 0),p 4 (.bin .lss 3 (.k (.int .i64 10)))]) (.cond 4 (.seq (.reg [p 5 (.mov
 0),p 6 (.mov 0),p 7 (.bin .add 6 (.k (.int .i64 1))),p 8 (.subS (.k (.str [48,49,50,51,52,53,54,55,56,57,97,98,99,100,101,102,103,104,105,106,107,108,109,110,
 111,112,113,114,115,116,117,118,119,120,121,122])) (some 5) (some 7)),p 2 (.mov 8)]) .ret) .skip)) (.seq (.reg [p 9 (.mov 0),p 10 (.bin .mul 9 (.k (.int .i64 2))),p 11
 (.mov 0),p 12 (.bin .mul 11 (.k (.int .i64 2))),p 13 (.bin .add 12 (.k (.int .i64 2))),p 14 (.subS (.k (.str [48,48,48,49,48,50,48,51,48,52,48,53,48,54,48,55,48,
 56,48,57,49,48,49,49,49,50,49,51,49,52,49,53,49,54,49,55,49,56,49,57,50,48,50,49,50,50,50,51,50,52,50,53,50,54,50,55,50,56,50,57,51,48,51,
 49,51,50,51,51,51,52,51,53,51,54,51,55,51,56,51,57,52,48,52,49,52,50,52,51,52,52,52,53,52,54,52,55,52,56,52,57,53,48,53,49,53,50,53,51,53,
 52,53,53,53,54,53,55,53,56,53,57,54,48,54,49,54,50,54,51,54,52,54,53,54,54,54,55,54,56,54,57,55,48,55,49,55,50,55,51,55,52,55,53,55,54,55,
 55,55,56,55,57,56,48,56,49,56,50,56,51,56,52,56,53,56,54,56,55,56,56,56,57,57,48,57,49,57,50,57,51,57,52,57,53,57,54,57,55,57,56,57,57]))
 (some 10) (some 13)),p 2 (.mov 14)]) .ret)))⟩
def strconv_numDigits:MFun:=⟨1,[.t 2],(.seq (.reg [p 2 (.mov (.k (.int .i64 0)))]) (.seq (.reg [p 4 (.mov 0),w 5 (.call (.k (.fn 53 [] [])) [4]),w 6 (.call (.k (.fn 447 [] []))
 [5]),p 3 (.mov 6)]) (.seq (.reg [p 7 (.mov 3),p 8 (.mov 0),p 9 (.mov 3),r 10 (.gaddr 4 20 1 9),r 11 (.load none 10),p 12 (.bin .geq 8 11),w 13 (.call (.k (.fn 448 [] [])) [12]),
 p 14 (.bin .add 7 13),p 2 (.mov 14)]) .ret)))⟩
def strconv_formatBase10_l0:MCode:=(.seq (.keep [0,1,4]) (.seq (.seq (.reg [p 19 (.mov 4),p 20 (.bin .geq 19 (.k (.int .i64 8)))]) (.cond 20 .skip (.exit 0))) (.block 1 (.seq
 (.reg [p 21 (.mov 1),p 22 (.bin .rem 21 (.k (.int .u64 100000000))),p 23 (.conv .u32 22),p 5 (.mov 23)]) (.seq (.reg [p 24 (.mov 1),p 25 (.bin .quo 24 (.k (.int .u64 100000000))),
 p 1 (.mov 25)]) (.seq (.reg [p 26 (.mov 5),p 27 (.bin .quo 26 (.k (.int .u32 10000))),p 28 (.mov 5),p 29 (.bin .rem 28 (.k (.int .u32 10000))),p 6 (.mov 27),p 7 (.mov 29)]) (.seq
 (.reg [p 30 (.mov 7),p 31 (.bin .quo 30 (.k (.int .u32 100))),p 32 (.bin .mul 31 (.k (.int .u32 2))),p 33 (.mov 7),p 34 (.bin .rem 33 (.k (.int .u32 100))),p 35 (.bin .mul 34 (.k
 (.int .u32 2))),p 8 (.mov 32),p 9 (.mov 35)]) (.seq (.keep [0,1,4,6,8,9]) (.seq (.reg [p 36 (.mov 6),p 37 (.bin .quo 36 (.k (.int .u32 100))),p 38 (.bin .mul 37 (.k (.int .u32
 2))),p 39 (.mov 6),p 40 (.bin .rem 39 (.k (.int .u32 100))),p 41 (.bin .mul 40 (.k (.int .u32 2))),p 10 (.mov 38),p 11 (.mov 41)]) (.seq (.keep [0,1,4,8,9,10,11]) (.seq (.regd
 [.op 0 (p 42 (.mov 0)),.op 1 (p 43 (.mov 4)),.op 2 (p 44 (.bin .sub 43 (.k (.int .i64 1)))),.op 6 (p 48 (.mov 9)),.op 7 (p 49 (.bin .add 48 (.k (.int .u32 1)))),.op 8 (p 50 (.idxS
 (.k (.str [48,48,48,49,48,50,48,51,48,52,48,53,48,54,48,55,48,56,48,57,49,48,49,49,49,50,49,51,49,52,49,53,49,54,49,55,49,56,49,57,50,48,50,
 49,50,50,50,51,50,52,50,53,50,54,50,55,50,56,50,57,51,48,51,49,51,50,51,51,51,52,51,53,51,54,51,55,51,56,51,57,52,48,52,49,52,50,52,51,52,
 52,52,53,52,54,52,55,52,56,52,57,53,48,53,49,53,50,53,51,53,52,53,53,53,54,53,55,53,56,53,57,54,48,54,49,54,50,54,51,54,52,54,53,54,54,54,
 55,54,56,54,57,55,48,55,49,55,50,55,51,55,52,55,53,55,54,55,55,55,56,55,57,56,48,56,49,56,50,56,51,56,52,56,53,56,54,56,55,56,56,56,57,57,
 48,57,49,57,50,57,51,57,52,57,53,57,54,57,55,57,56,57,57])) 49)),.op 11 (p 53 (.iaddrS 1 42 44)),.op 12 (w0 (.store 1 53 50)),.op 3 (p 45 (.mov 0)),.op 4 (p 46
 (.mov 4)),.op 5 (p 47 (.bin .sub 46 (.k (.int .i64 2)))),.op 9 (p 51 (.mov 9)),.op 10 (p 52 (.idxS (.k (.str [48,48,48,49,48,50,48,51,48,52,48,53,48,54,48,55,48,
 56,48,57,49,48,49,49,49,50,49,51,49,52,49,53,49,54,49,55,49,56,49,57,50,48,50,49,50,50,50,51,50,52,50,53,50,54,50,55,50,56,50,57,51,48,51,
 49,51,50,51,51,51,52,51,53,51,54,51,55,51,56,51,57,52,48,52,49,52,50,52,51,52,52,52,53,52,54,52,55,52,56,52,57,53,48,53,49,53,50,53,51,53,
 52,53,53,53,54,53,55,53,56,53,57,54,48,54,49,54,50,54,51,54,52,54,53,54,54,54,55,54,56,54,57,55,48,55,49,55,50,55,51,55,52,55,53,55,54,55,
 55,55,56,55,57,56,48,56,49,56,50,56,51,56,52,56,53,56,54,56,55,56,56,56,57,57,48,57,49,57,50,57,51,57,52,57,53,57,54,57,55,57,56,57,57]))
 51)),.op 13 (p 54 (.iaddrS 1 45 47)),.op 14 (w0 (.store 1 54 52))]) (.seq (.keep [0,1,4,8,10,11]) (.seq (.regd [.op 0 (p 55 (.mov 0)),.op 1 (p 56 (.mov 4)),.op 2 (p 57 (.bin
 .sub 56 (.k (.int .i64 3)))),.op 6 (p 61 (.mov 8)),.op 7 (p 62 (.bin .add 61 (.k (.int .u32 1)))),.op 8 (p 63 (.idxS (.k (.str [48,48,48,49,48,50,48,51,48,52,48,53,48,
 54,48,55,48,56,48,57,49,48,49,49,49,50,49,51,49,52,49,53,49,54,49,55,49,56,49,57,50,48,50,49,50,50,50,51,50,52,50,53,50,54,50,55,50,56,50,
 57,51,48,51,49,51,50,51,51,51,52,51,53,51,54,51,55,51,56,51,57,52,48,52,49,52,50,52,51,52,52,52,53,52,54,52,55,52,56,52,57,53,48,53,49,53,
 50,53,51,53,52,53,53,53,54,53,55,53,56,53,57,54,48,54,49,54,50,54,51,54,52,54,53,54,54,54,55,54,56,54,57,55,48,55,49,55,50,55,51,55,52,55,
 53,55,54,55,55,55,56,55,57,56,48,56,49,56,50,56,51,56,52,56,53,56,54,56,55,56,56,56,57,57,48,57,49,57,50,57,51,57,52,57,53,57,54,57,55,57,
 56,57,57])) 62)),.op 11 (p 66 (.iaddrS 1 55 57)),.op 12 (w0 (.store 1 66 63)),.op 3 (p 58 (.mov 0)),.op 4 (p 59 (.mov 4)),.op 5 (p 60 (.bin .sub 59 (.k (.int .i64 4)))),.op
 9 (p 64 (.mov 8)),.op 10 (p 65 (.idxS (.k (.str [48,48,48,49,48,50,48,51,48,52,48,53,48,54,48,55,48,56,48,57,49,48,49,49,49,50,49,51,49,52,49,53,49,
 54,49,55,49,56,49,57,50,48,50,49,50,50,50,51,50,52,50,53,50,54,50,55,50,56,50,57,51,48,51,49,51,50,51,51,51,52,51,53,51,54,51,55,51,56,51,
 57,52,48,52,49,52,50,52,51,52,52,52,53,52,54,52,55,52,56,52,57,53,48,53,49,53,50,53,51,53,52,53,53,53,54,53,55,53,56,53,57,54,48,54,49,54,
 50,54,51,54,52,54,53,54,54,54,55,54,56,54,57,55,48,55,49,55,50,55,51,55,52,55,53,55,54,55,55,55,56,55,57,56,48,56,49,56,50,56,51,56,52,56,
 53,56,54,56,55,56,56,56,57,57,48,57,49,57,50,57,51,57,52,57,53,57,54,57,55,57,56,57,57])) 64)),.op 13 (p 67 (.iaddrS 1 58 60)),.op 14 (w0 (.store 1 67
 65))]) (.seq (.keep [0,1,4,10,11]) (.seq (.regd [.op 0 (p 68 (.mov 0)),.op 1 (p 69 (.mov 4)),.op 2 (p 70 (.bin .sub 69 (.k (.int .i64 5)))),.op 6 (p 74 (.mov 11)),.op 7 (p 75
 (.bin .add 74 (.k (.int .u32 1)))),.op 8 (p 76 (.idxS (.k (.str [48,48,48,49,48,50,48,51,48,52,48,53,48,54,48,55,48,56,48,57,49,48,49,49,49,50,49,51,49,
 52,49,53,49,54,49,55,49,56,49,57,50,48,50,49,50,50,50,51,50,52,50,53,50,54,50,55,50,56,50,57,51,48,51,49,51,50,51,51,51,52,51,53,51,54,51,
 55,51,56,51,57,52,48,52,49,52,50,52,51,52,52,52,53,52,54,52,55,52,56,52,57,53,48,53,49,53,50,53,51,53,52,53,53,53,54,53,55,53,56,53,57,54,
 48,54,49,54,50,54,51,54,52,54,53,54,54,54,55,54,56,54,57,55,48,55,49,55,50,55,51,55,52,55,53,55,54,55,55,55,56,55,57,56,48,56,49,56,50,56,
 51,56,52,56,53,56,54,56,55,56,56,56,57,57,48,57,49,57,50,57,51,57,52,57,53,57,54,57,55,57,56,57,57])) 75)),.op 11 (p 79 (.iaddrS 1 68 70)),.op 12 (w0
 (.store 1 79 76)),.op 3 (p 71 (.mov 0)),.op 4 (p 72 (.mov 4)),.op 5 (p 73 (.bin .sub 72 (.k (.int .i64 6)))),.op 9 (p 77 (.mov 11)),.op 10 (p 78 (.idxS (.k (.str [48,48,48,49,
 48,50,48,51,48,52,48,53,48,54,48,55,48,56,48,57,49,48,49,49,49,50,49,51,49,52,49,53,49,54,49,55,49,56,49,57,50,48,50,49,50,50,50,51,50,52,
 50,53,50,54,50,55,50,56,50,57,51,48,51,49,51,50,51,51,51,52,51,53,51,54,51,55,51,56,51,57,52,48,52,49,52,50,52,51,52,52,52,53,52,54,52,55,
 52,56,52,57,53,48,53,49,53,50,53,51,53,52,53,53,53,54,53,55,53,56,53,57,54,48,54,49,54,50,54,51,54,52,54,53,54,54,54,55,54,56,54,57,55,48,
 55,49,55,50,55,51,55,52,55,53,55,54,55,55,55,56,55,57,56,48,56,49,56,50,56,51,56,52,56,53,56,54,56,55,56,56,56,57,57,48,57,49,57,50,57,51,
 57,52,57,53,57,54,57,55,57,56,57,57])) 77)),.op 13 (p 80 (.iaddrS 1 71 73)),.op 14 (w0 (.store 1 80 78))]) (.seq (.keep [0,1,4,10]) (.seq (.regd [.op 0 (p 81 (.mov 0)),
 .op 1 (p 82 (.mov 4)),.op 2 (p 83 (.bin .sub 82 (.k (.int .i64 7)))),.op 6 (p 87 (.mov 10)),.op 7 (p 88 (.bin .add 87 (.k (.int .u32 1)))),.op 8 (p 89 (.idxS (.k (.str [48,48,
 48,49,48,50,48,51,48,52,48,53,48,54,48,55,48,56,48,57,49,48,49,49,49,50,49,51,49,52,49,53,49,54,49,55,49,56,49,57,50,48,50,49,50,50,50,51,
 50,52,50,53,50,54,50,55,50,56,50,57,51,48,51,49,51,50,51,51,51,52,51,53,51,54,51,55,51,56,51,57,52,48,52,49,52,50,52,51,52,52,52,53,52,54,
 52,55,52,56,52,57,53,48,53,49,53,50,53,51,53,52,53,53,53,54,53,55,53,56,53,57,54,48,54,49,54,50,54,51,54,52,54,53,54,54,54,55,54,56,54,57,
 55,48,55,49,55,50,55,51,55,52,55,53,55,54,55,55,55,56,55,57,56,48,56,49,56,50,56,51,56,52,56,53,56,54,56,55,56,56,56,57,57,48,57,49,57,50,
 57,51,57,52,57,53,57,54,57,55,57,56,57,57])) 88)),.op 11 (p 92 (.iaddrS 1 81 83)),.op 12 (w0 (.store 1 92 89)),.op 3 (p 84 (.mov 0)),.op 4 (p 85 (.mov 4)),.op 5 (p
 86 (.bin .sub 85 (.k (.int .i64 8)))),.op 9 (p 90 (.mov 10)),.op 10 (p 91 (.idxS (.k (.str [48,48,48,49,48,50,48,51,48,52,48,53,48,54,48,55,48,56,48,57,49,48,
 49,49,49,50,49,51,49,52,49,53,49,54,49,55,49,56,49,57,50,48,50,49,50,50,50,51,50,52,50,53,50,54,50,55,50,56,50,57,51,48,51,49,51,50,51,51,
 51,52,51,53,51,54,51,55,51,56,51,57,52,48,52,49,52,50,52,51,52,52,52,53,52,54,52,55,52,56,52,57,53,48,53,49,53,50,53,51,53,52,53,53,53,54,
 53,55,53,56,53,57,54,48,54,49,54,50,54,51,54,52,54,53,54,54,54,55,54,56,54,57,55,48,55,49,55,50,55,51,55,52,55,53,55,54,55,55,55,56,55,57,
 56,48,56,49,56,50,56,51,56,52,56,53,56,54,56,55,56,56,56,57,57,48,57,49,57,50,57,51,57,52,57,53,57,54,57,55,57,56,57,57])) 90)),.op 13 (p 93
 (.iaddrS 1 84 86)),.op 14 (w0 (.store 1 93 91))]) (.seq (.keep [0,1,4]) (.reg [p 94 (.mov 4),p 95 (.bin .sub 94 (.k (.int .i64 8))),p 4 (.mov 95)])))))))))))))))))))
def strconv_formatBase10:MFun:=⟨2,[],(.seq (.reg [p 17 (.mov 0),p 18 (.lenOf false 17),p 4 (.mov 18)]) (.seq (.block 0 (.loop strconv_formatBase10_l0)) (.seq (.keep [0,1,4])
 (.seq (.reg [p 96 (.mov 1),p 97 (.conv .u32 96),p 12 (.mov 97)]) (.seq (.seq (.reg [p 98 (.mov 4),p 99 (.bin .geq 98 (.k (.int .i64 4)))]) (.cond 99 (.seq (.reg [p 100 (.mov 12),
 p 101 (.bin .rem 100 (.k (.int .u32 10000))),p 13 (.mov 101)]) (.seq (.reg [p 102 (.mov 12),p 103 (.bin .quo 102 (.k (.int .u32 10000))),p 12 (.mov 103)]) (.seq (.reg [p 104 (.mov
 13),p 105 (.bin .quo 104 (.k (.int .u32 100))),p 106 (.bin .mul 105 (.k (.int .u32 2))),p 107 (.mov 13),p 108 (.bin .rem 107 (.k (.int .u32 100))),p 109 (.bin .mul 108 (.k (.int
 .u32 2))),p 14 (.mov 106),p 15 (.mov 109)]) (.seq (.keep [0,4,12,14,15]) (.seq (.regd [.op 0 (p 110 (.mov 0)),.op 1 (p 111 (.mov 4)),.op 2 (p 112 (.bin .sub 111 (.k (.int .i64
 1)))),.op 6 (p 116 (.mov 15)),.op 7 (p 117 (.bin .add 116 (.k (.int .u32 1)))),.op 8 (p 118 (.idxS (.k (.str [48,48,48,49,48,50,48,51,48,52,48,53,48,54,48,55,48,
 56,48,57,49,48,49,49,49,50,49,51,49,52,49,53,49,54,49,55,49,56,49,57,50,48,50,49,50,50,50,51,50,52,50,53,50,54,50,55,50,56,50,57,51,48,51,
 49,51,50,51,51,51,52,51,53,51,54,51,55,51,56,51,57,52,48,52,49,52,50,52,51,52,52,52,53,52,54,52,55,52,56,52,57,53,48,53,49,53,50,53,51,53,
 52,53,53,53,54,53,55,53,56,53,57,54,48,54,49,54,50,54,51,54,52,54,53,54,54,54,55,54,56,54,57,55,48,55,49,55,50,55,51,55,52,55,53,55,54,55,
 55,55,56,55,57,56,48,56,49,56,50,56,51,56,52,56,53,56,54,56,55,56,56,56,57,57,48,57,49,57,50,57,51,57,52,57,53,57,54,57,55,57,56,57,57]))
 117)),.op 11 (p 121 (.iaddrS 1 110 112)),.op 12 (w0 (.store 1 121 118)),.op 3 (p 113 (.mov 0)),.op 4 (p 114 (.mov 4)),.op 5 (p 115 (.bin .sub 114 (.k (.int .i64 2)))),.op 9 (p
 119 (.mov 15)),.op 10 (p 120 (.idxS (.k (.str [48,48,48,49,48,50,48,51,48,52,48,53,48,54,48,55,48,56,48,57,49,48,49,49,49,50,49,51,49,52,49,53,49,54,
 49,55,49,56,49,57,50,48,50,49,50,50,50,51,50,52,50,53,50,54,50,55,50,56,50,57,51,48,51,49,51,50,51,51,51,52,51,53,51,54,51,55,51,56,51,57,
 52,48,52,49,52,50,52,51,52,52,52,53,52,54,52,55,52,56,52,57,53,48,53,49,53,50,53,51,53,52,53,53,53,54,53,55,53,56,53,57,54,48,54,49,54,50,
 54,51,54,52,54,53,54,54,54,55,54,56,54,57,55,48,55,49,55,50,55,51,55,52,55,53,55,54,55,55,55,56,55,57,56,48,56,49,56,50,56,51,56,52,56,53,
 56,54,56,55,56,56,56,57,57,48,57,49,57,50,57,51,57,52,57,53,57,54,57,55,57,56,57,57])) 119)),.op 13 (p 122 (.iaddrS 1 113 115)),.op 14 (w0 (.store 1 122
 120))]) (.seq (.keep [0,4,12,14]) (.seq (.regd [.op 0 (p 123 (.mov 0)),.op 1 (p 124 (.mov 4)),.op 2 (p 125 (.bin .sub 124 (.k (.int .i64 3)))),.op 6 (p 129 (.mov 14)),.op 7 (p
 130 (.bin .add 129 (.k (.int .u32 1)))),.op 8 (p 131 (.idxS (.k (.str [48,48,48,49,48,50,48,51,48,52,48,53,48,54,48,55,48,56,48,57,49,48,49,49,49,50,49,51,
 49,52,49,53,49,54,49,55,49,56,49,57,50,48,50,49,50,50,50,51,50,52,50,53,50,54,50,55,50,56,50,57,51,48,51,49,51,50,51,51,51,52,51,53,51,54,
 51,55,51,56,51,57,52,48,52,49,52,50,52,51,52,52,52,53,52,54,52,55,52,56,52,57,53,48,53,49,53,50,53,51,53,52,53,53,53,54,53,55,53,56,53,57,
 54,48,54,49,54,50,54,51,54,52,54,53,54,54,54,55,54,56,54,57,55,48,55,49,55,50,55,51,55,52,55,53,55,54,55,55,55,56,55,57,56,48,56,49,56,50,
 56,51,56,52,56,53,56,54,56,55,56,56,56,57,57,48,57,49,57,50,57,51,57,52,57,53,57,54,57,55,57,56,57,57])) 130)),.op 11 (p 134 (.iaddrS 1 123 125)),
 .op 12 (w0 (.store 1 134 131)),.op 3 (p 126 (.mov 0)),.op 4 (p 127 (.mov 4)),.op 5 (p 128 (.bin .sub 127 (.k (.int .i64 4)))),.op 9 (p 132 (.mov 14)),.op 10 (p 133 (.idxS (.k (.str
 [48,48,48,49,48,50,48,51,48,52,48,53,48,54,48,55,48,56,48,57,49,48,49,49,49,50,49,51,49,52,49,53,49,54,49,55,49,56,49,57,50,48,50,49,50,
 50,50,51,50,52,50,53,50,54,50,55,50,56,50,57,51,48,51,49,51,50,51,51,51,52,51,53,51,54,51,55,51,56,51,57,52,48,52,49,52,50,52,51,52,52,52,
 53,52,54,52,55,52,56,52,57,53,48,53,49,53,50,53,51,53,52,53,53,53,54,53,55,53,56,53,57,54,48,54,49,54,50,54,51,54,52,54,53,54,54,54,55,54,
 56,54,57,55,48,55,49,55,50,55,51,55,52,55,53,55,54,55,55,55,56,55,57,56,48,56,49,56,50,56,51,56,52,56,53,56,54,56,55,56,56,56,57,57,48,57,
 49,57,50,57,51,57,52,57,53,57,54,57,55,57,56,57,57])) 132)),.op 13 (p 135 (.iaddrS 1 126 128)),.op 14 (w0 (.store 1 135 133))]) (.seq (.keep [0,4,12]) (.reg [p 136
 (.mov 4),p 137 (.bin .sub 136 (.k (.int .i64 4))),p 4 (.mov 137)]))))))))) .skip)) (.seq (.keep [0,4,12]) (.seq (.seq (.reg [p 138 (.mov 4),p 139 (.bin .geq 138 (.k (.int .i64
 2)))]) (.cond 139 (.seq (.reg [p 140 (.mov 12),p 141 (.bin .rem 140 (.k (.int .u32 100))),p 142 (.bin .mul 141 (.k (.int .u32 2))),p 16 (.mov 142)]) (.seq (.reg [p 143 (.mov 12),
 p 144 (.bin .quo 143 (.k (.int .u32 100))),p 12 (.mov 144)]) (.seq (.regd [.op 0 (p 145 (.mov 0)),.op 1 (p 146 (.mov 4)),.op 2 (p 147 (.bin .sub 146 (.k (.int .i64 1)))),.op 6 (p
 151 (.mov 16)),.op 7 (p 152 (.bin .add 151 (.k (.int .u32 1)))),.op 8 (p 153 (.idxS (.k (.str [48,48,48,49,48,50,48,51,48,52,48,53,48,54,48,55,48,56,48,57,49,
 48,49,49,49,50,49,51,49,52,49,53,49,54,49,55,49,56,49,57,50,48,50,49,50,50,50,51,50,52,50,53,50,54,50,55,50,56,50,57,51,48,51,49,51,50,51,
 51,51,52,51,53,51,54,51,55,51,56,51,57,52,48,52,49,52,50,52,51,52,52,52,53,52,54,52,55,52,56,52,57,53,48,53,49,53,50,53,51,53,52,53,53,53,
 54,53,55,53,56,53,57,54,48,54,49,54,50,54,51,54,52,54,53,54,54,54,55,54,56,54,57,55,48,55,49,55,50,55,51,55,52,55,53,55,54,55,55,55,56,55,
 57,56,48,56,49,56,50,56,51,56,52,56,53,56,54,56,55,56,56,56,57,57,48,57,49,57,50,57,51,57,52,57,53,57,54,57,55,57,56,57,57])) 152)),.op 11 (p
 156 (.iaddrS 1 145 147)),.op 12 (w0 (.store 1 156 153)),.op 3 (p 148 (.mov 0)),.op 4 (p 149 (.mov 4)),.op 5 (p 150 (.bin .sub 149 (.k (.int .i64 2)))),.op 9 (p 154 (.mov 16)),
 .op 10 (p 155 (.idxS (.k (.str [48,48,48,49,48,50,48,51,48,52,48,53,48,54,48,55,48,56,48,57,49,48,49,49,49,50,49,51,49,52,49,53,49,54,49,55,49,56,
 49,57,50,48,50,49,50,50,50,51,50,52,50,53,50,54,50,55,50,56,50,57,51,48,51,49,51,50,51,51,51,52,51,53,51,54,51,55,51,56,51,57,52,48,52,49,
 52,50,52,51,52,52,52,53,52,54,52,55,52,56,52,57,53,48,53,49,53,50,53,51,53,52,53,53,53,54,53,55,53,56,53,57,54,48,54,49,54,50,54,51,54,52,
 54,53,54,54,54,55,54,56,54,57,55,48,55,49,55,50,55,51,55,52,55,53,55,54,55,55,55,56,55,57,56,48,56,49,56,50,56,51,56,52,56,53,56,54,56,55,
 56,56,56,57,57,48,57,49,57,50,57,51,57,52,57,53,57,54,57,55,57,56,57,57])) 154)),.op 13 (p 157 (.iaddrS 1 148 150)),.op 14 (w0 (.store 1 157 155))]) (.seq (.keep
 [0,4,12]) (.reg [p 158 (.mov 4),p 159 (.bin .sub 158 (.k (.int .i64 2))),p 4 (.mov 159)]))))) .skip)) (.seq (.keep [0,4,12]) (.seq (.reg [p 160 (.mov 4),p 161 (.bin .gtr 160
 (.k (.int .i64 0)))]) (.cond 161 (.reg [p 162 (.mov 0),p 163 (.mov 12),p 164 (.bin .add (.k (.int .u32 48)) 163),p 165 (.conv .u8 164),p 166 (.iaddrS 1 162 (.k (.int .i64 0))),
 w0 (.store 1 166 165)]) .skip))))))))))⟩
def strconv_formatBits_l0:MCode:=(.seq (.keep [0,1,3,4,10,11,12,13,14,15,16]) (.seq (.seq (.reg [p 44 (.mov 1),p 45 (.mov 15),p 46 (.bin .geq 44 45)]) (.cond 46 .skip
 (.exit 0))) (.block 1 (.seq (.reg [p 47 (.mov 13),p 48 (.bin .sub 47 (.k (.int .i64 1))),p 13 (.mov 48)]) (.seq (.reg [p 49 (.mov 13),p 50 (.mov 1),p 51 (.mov 16),p 52 (.bin .and
 50 51),p 53 (.idxS (.k (.str [48,49,50,51,52,53,54,55,56,57,97,98,99,100,101,102,103,104,105,106,107,108,109,110,111,112,113,114,115,116,117,118,119,
 120,121,122])) 52),p 54 (.iaddrA 65 1 12 49),w0 (.store 1 54 53)]) (.reg [p 55 (.mov 1),p 56 (.mov 14),p 57 (.bin .shr 55 56),p 1 (.mov 57)]))))))
def strconv_formatBits_l1:MCode:=(.seq (.keep [0,1,3,4,10,11,12,13,17]) (.seq (.seq (.reg [p 66 (.mov 1),p 67 (.mov 17),p 68 (.bin .geq 66 67)]) (.cond 68 .skip (.exit
 2))) (.block 3 (.seq (.reg [p 69 (.mov 13),p 70 (.bin .sub 69 (.k (.int .i64 1))),p 13 (.mov 70)]) (.seq (.reg [p 71 (.mov 1),p 72 (.mov 17),p 73 (.bin .quo 71 72),p 18 (.mov 73)])
 (.seq (.reg [p 74 (.mov 13),p 75 (.mov 1),p 76 (.mov 18),p 77 (.mov 17),p 78 (.bin .mul 76 77),p 79 (.bin .sub 75 78),p 80 (.idxS (.k (.str [48,49,50,51,52,53,54,55,56,
 57,97,98,99,100,101,102,103,104,105,106,107,108,109,110,111,112,113,114,115,116,117,118,119,120,121,122])) 79),p 81 (.iaddrA 65 1 12 74),w0 (.store 1 81
 80)]) (.seq (.keep [0,3,4,10,11,12,13,17,18]) (.reg [p 82 (.mov 18),p 1 (.mov 82)]))))))))
def strconv_formatBits:MFun:=⟨5,[.t 10,.t 11],(.seq (.reg [p 10 (.mov (.k .nilslice)),p 11 (.mov (.k (.str [])))]) (.seq (.seq (.reg [p 19 (.mov 2),p 20 (.bin .lss 19 (.k (.int
 .i64 2))),p 21 (.mov 20),pg 22 21 false (.mov 2),pg 23 21 false (.bin .eql 22 (.k (.int .i64 10))),p 24 (.pick 21 (.k (.bool true)) 23),p 25 (.mov 24),pg 26 25 false (.mov 2),
 pg 27 25 false (.bin .gtr 26 (.k (.int .i64 36))),p 28 (.pick 25 (.k (.bool true)) 27)]) (.seq (.keep [0,1,2,3,4,10,11,28]) (.cond 28 (.reg [p 29 (.iface 9 (.k (.str [115,116,
 114,99,111,110,118,58,32,105,108,108,101,103,97,108,32,65,112,112,101,110,100,73,110,116,47,70,111,114,109,97,116,73,110,116,32,98,97,115,101]))),
 p0 (.stuck)]) .skip))) (.seq (.keep [0,1,2,3,4,10,11]) (.seq (.reg [n 12 (.alloc 246 false (List.replicate 65 (.int .u8 0)))]) (.seq (.reg [p 13 (.mov (.k (.int .i64 65)))]) (.seq
 (.seq (.reg [p 30 (.mov 3)]) (.cond 30 (.reg [p 31 (.mov 1),p 32 (.un .neg 31),p 1 (.mov 32)]) .skip)) (.seq (.seq (.reg [p 33 (.mov 2),w 34 (.call (.k (.fn 449 [] [])) [33])]) (.cond
 34 (.seq (.reg [p 35 (.mov 2),p 36 (.conv .u64 35),w 37 (.call (.k (.fn 450 [] [])) [36]),p 38 (.conv .u64 37),p 14 (.mov 38)]) (.seq (.reg [p 39 (.mov 2),p 40 (.conv .u64 39),
 p 15 (.mov 40)]) (.seq (.reg [p 41 (.mov 2),p 42 (.conv .u64 41),p 43 (.bin .sub 42 (.k (.int .u64 1))),p 16 (.mov 43)]) (.seq (.block 0 (.loop strconv_formatBits_l0)) (.seq (.keep
 [0,1,3,4,10,11,12,13]) (.seq (.reg [p 58 (.mov 13),p 59 (.bin .sub 58 (.k (.int .i64 1))),p 13 (.mov 59)]) (.reg [p 60 (.mov 13),p 61 (.mov 1),p 62 (.idxS (.k (.str [48,
 49,50,51,52,53,54,55,56,57,97,98,99,100,101,102,103,104,105,106,107,108,109,110,111,112,113,114,115,116,117,118,119,120,121,122])) 61),p 63 (.iaddrA
 65 1 12 60),w0 (.store 1 63 62)]))))))) (.seq (.reg [p 64 (.mov 2),p 65 (.conv .u64 64),p 17 (.mov 65)]) (.seq (.block 2 (.loop strconv_formatBits_l1)) (.seq (.keep [0,1,3,4,
 10,11,12,13]) (.seq (.reg [p 83 (.mov 13),p 84 (.bin .sub 83 (.k (.int .i64 1))),p 13 (.mov 84)]) (.reg [p 85 (.mov 13),p 86 (.mov 1),p 87 (.idxS (.k (.str [48,49,50,51,52,
 53,54,55,56,57,97,98,99,100,101,102,103,104,105,106,107,108,109,110,111,112,113,114,115,116,117,118,119,120,121,122])) 86),p 88 (.iaddrA 65 1 12 85),
 w0 (.store 1 88 87)]))))))) (.seq (.keep [0,3,4,10,11,12,13]) (.seq (.seq (.reg [p 89 (.mov 3)]) (.cond 89 (.seq (.reg [p 90 (.mov 13),p 91 (.bin .sub 90 (.k (.int .i64 1))),
 p 13 (.mov 91)]) (.reg [p 92 (.mov 13),p 93 (.iaddrA 65 1 12 92),w0 (.store 1 93 (.k (.int .u8 45)))])) .skip)) (.seq (.seq (.reg [p 94 (.mov 4)]) (.cond 94 (.seq (.reg [p 95 (.mov
 0),p 96 (.mov 13),p 97 (.subA 65 1 12 (some 96) none none),w 98 (.append 5 1 1 [(.int .u8 0)] 95 97),p 10 (.mov 98)]) .ret) .skip)) (.seq (.reg [p 99 (.mov 13),p 100 (.subA 65
 1 12 (some 99) none none),r 101 (.b2s 100),p 11 (.mov 101)]) .ret)))))))))))⟩
def slices_Index_int_int_l0:MCode:=(.seq (.keep [0,1,7,8]) (.seq (.reg [p 9 (.bin .lss 8 7)]) (.seq (.cond 9 .skip (.exit 0)) (.seq (.block 1 (.seq (.reg [p 10 (.mov 8),p 5
 (.mov 10)]) (.seq (.reg [p 11 (.mov 1),p 12 (.mov 0),p 13 (.mov 5),p 14 (.iaddrS 1 12 13),r 15 (.load none 14),p 16 (.bin .eql 11 15)]) (.cond 16 (.seq (.reg [p 17 (.mov 5),p
 4 (.mov 17)]) .ret) .skip)))) (.seq (.keep [0,1,7,8]) (.reg [p 18 (.bin .add 8 (.k (.int .i64 1))),p 8 (.mov 18)]))))))
def slices_Index_int_int:MFun:=⟨2,[.t 4],(.seq (.reg [p 4 (.mov (.k (.int .i64 0)))]) (.seq (.seq (.reg [p 6 (.mov 0),p 7 (.lenOf false 6),p 8 (.mov (.k (.int .i64 0)))]) (.block
 0 (.loop slices_Index_int_int_l0))) (.seq (.keep []) (.seq (.reg [p 4 (.mov (.k (.int .i64 (-1))))]) .ret))))⟩
def math_bits_Len64:MFun:=⟨1,[.t 2],(.seq (.reg [p 2 (.mov (.k (.int .i64 0)))]) (.seq (.seq (.reg [p 3 (.mov 0),p 4 (.bin .geq 3 (.k (.int .u64 4294967296)))]) (.cond 4 (.seq
 (.reg [p 5 (.mov 0),p 6 (.bin .shr 5 (.k (.int .u64 32))),p 0 (.mov 6)]) (.reg [p 2 (.mov (.k (.int .i64 32)))])) .skip)) (.seq (.seq (.reg [p 7 (.mov 0),p 8 (.bin .geq 7 (.k (.int
 .u64 65536)))]) (.cond 8 (.seq (.reg [p 9 (.mov 0),p 10 (.bin .shr 9 (.k (.int .u64 16))),p 0 (.mov 10)]) (.reg [p 11 (.mov 2),p 12 (.bin .add 11 (.k (.int .i64 16))),p 2 (.mov
 12)])) .skip)) (.seq (.keep [0,2]) (.seq (.seq (.reg [p 13 (.mov 0),p 14 (.bin .geq 13 (.k (.int .u64 256)))]) (.cond 14 (.seq (.reg [p 15 (.mov 0),p 16 (.bin .shr 15 (.k (.int .u64
 8))),p 0 (.mov 16)]) (.reg [p 17 (.mov 2),p 18 (.bin .add 17 (.k (.int .i64 8))),p 2 (.mov 18)])) .skip)) (.seq (.keep [0,2]) (.seq (.reg [p 19 (.mov 2),p 20 (.mov 0),p 21 (.conv
 .u8 20),p 22 (.idxS (.k (.str [0,1,2,2,3,3,3,3,4,4,4,4,4,4,4,4,5,5,5,5,5,5,5,5,5,5,5,5,5,5,5,5,6,6,6,6,6,6,6,6,6,6,6,6,6,6,6,6,6,6,
 6,6,6,6,6,6,6,6,6,6,6,6,6,6,7,7,7,7,7,7,7,7,7,7,7,7,7,7,7,7,7,7,7,7,7,7,7,7,7,7,7,7,7,7,7,7,7,7,7,7,7,7,7,7,7,7,7,7,7,7,7,
 7,7,7,7,7,7,7,7,7,7,7,7,7,7,7,7,7,8,8,8,8,8,8,8,8,8,8,8,8,8,8,8,8,8,8,8,8,8,8,8,8,8,8,8,8,8,8,8,8,8,8,8,8,8,8,8,8,8,8,8,8,
 8,8,8,8,8,8,8,8,8,8,8,8,8,8,8,8,8,8,8,8,8,8,8,8,8,8,8,8,8,8,8,8,8,8,8,8,8,8,8,8,8,8,8,8,8,8,8,8,8,8,8,8,8,8,8,8,8,8,8,8,8,
 8,8,8,8,8,8,8,8,8,8,8,8,8,8,8,8,8,8,8,8,8,8,8])) 21),p 23 (.conv .i64 22),p 24 (.bin .add 19 23),p 2 (.mov 24)]) .ret)))))))⟩
def strconv_log10Pow2:MFun:=⟨1,[.t 2],(.seq (.reg [p 2 (.mov (.k (.int .i64 0)))]) (.seq (.reg [p 3 (.mov 0),p 4 (.bin .mul 3 (.k (.int .i64 78913))),p 5 (.bin .shr 4 (.k (.int
 .u64 18))),p 2 (.mov 5)]) .ret))⟩
def strconv_bool2_int:MFun:=⟨1,[.t 2],(.seq (.reg [p 2 (.mov (.k (.int .i64 0)))]) (.seq (.seq (.reg [p 3 (.mov 0)]) (.cond 3 (.seq (.reg [p 2 (.mov (.k (.int .i64 1)))]) .ret)
 .skip)) (.seq (.reg [p 2 (.mov (.k (.int .i64 0)))]) .ret)))⟩
def strconv_isPowerOfTwo:MFun:=⟨1,[.t 2],(.seq (.reg [p 2 (.mov (.k (.bool false)))]) (.seq (.reg [p 3 (.mov 0),p 4 (.mov 0),p 5 (.bin .sub 4 (.k (.int .i64 1))),p 6 (.bin
 .and 3 5),p 7 (.bin .eql 6 (.k (.int .i64 0))),p 2 (.mov 7)]) .ret))⟩
def math_bits_TrailingZeros:MFun:=⟨1,[.t 2],(.seq (.reg [p 2 (.mov (.k (.int .i64 0)))]) (.seq (.cond (.k (.bool false)) (.seq (.reg [p 3 (.mov 0),p 4 (.conv .u32 3),w 5 (.call
 (.k (.fn 451 [] [])) [4]),p 2 (.mov 5)]) .ret) .skip) (.seq (.reg [p 6 (.mov 0),w 7 (.call (.k (.fn 452 [] [])) [6]),p 2 (.mov 7)]) .ret)))⟩
def math_bits_TrailingZeros32:MFun:=⟨1,[.t 2],(.seq (.reg [p 2 (.mov (.k (.int .i64 0)))]) (.seq (.seq (.reg [p 3 (.mov 0),p 4 (.bin .eql 3 (.k (.int .u32 0)))]) (.cond 4 (.seq
 (.reg [p 2 (.mov (.k (.int .i64 32)))]) .ret) .skip)) (.seq (.reg [p 5 (.mov 0),p 6 (.mov 0),p 7 (.un .neg 6),p 8 (.bin .and 5 7),p 9 (.bin .mul 8 (.k (.int .u32 125613361))),p
 10 (.bin .shr 9 (.k (.int .u64 27))),r 11 (.gaddr 5 32 1 10),r 12 (.load none 11),p 13 (.conv .i64 12),p 2 (.mov 13)]) .ret)))⟩
def math_bits_TrailingZeros64:MFun:=⟨1,[.t 2],(.seq (.reg [p 2 (.mov (.k (.int .i64 0)))]) (.seq (.seq (.reg [p 3 (.mov 0),p 4 (.bin .eql 3 (.k (.int .u64 0)))]) (.cond 4 (.seq
 (.reg [p 2 (.mov (.k (.int .i64 64)))]) .ret) .skip)) (.seq (.reg [p 5 (.mov 0),p 6 (.mov 0),p 7 (.un .neg 6),p 8 (.bin .and 5 7),p 9 (.bin .mul 8 (.k (.int .u64 285870213051353865))),
 p 10 (.bin .shr 9 (.k (.int .u64 58))),r 11 (.gaddr 6 64 1 10),r 12 (.load none 11),p 13 (.conv .i64 12),p 2 (.mov 13)]) .ret)))⟩
structure H_strings_Compare (T:Tab):Prop where
 en:T.en 384=some E_strings_Compare
structure H_strings_ToUpper (T:Tab):Prop where
 en:T.en 396=some E_strings_ToUpper
structure H_strconv_FormatBool (T:Tab):Prop where
 en:T.en 403=some E_strconv_FormatBool
structure H_chaselaw14_i (T:Tab):Prop where
 e:T.en 301=none
 f:T.fn 301=some chaselaw14_i
structure H_chaselaw14_strings (T:Tab):Prop where
 e:T.en 306=none
 f:T.fn 306=some chaselaw14_strings
structure H_chaselaw14_r (T:Tab):Prop where
 e:T.en 307=none
 f:T.fn 307=some chaselaw14_r
structure H_chaseref10_Bool (T:Tab):Prop where
 e:T.en 325=none
 f:T.fn 325=some chaseref10_Bool
structure H_heap_cellKind (T:Tab):Prop where
 e:T.en 327=none
 f:T.fn 327=some heap_cellKind
structure H_heap_length (T:Tab):Prop where
 e:T.en 328=none
 f:T.fn 328=some heap_length
structure H_object_kinds (T:Tab):Prop where
 e:T.en 329=none
 f:T.fn 329=some object_kinds
structure H_logic_Do_1 (T:Tab):Prop where
 e:T.en 330=none
 f:T.fn 330=some logic_Do_1
structure H_logic_Do_2 (T:Tab):Prop where
 e:T.en 331=none
 f:T.fn 331=some logic_Do_2
structure H_logic_Do_3 (T:Tab):Prop where
 e:T.en 332=none
 f:T.fn 332=some logic_Do_3
structure H_logic_Do_4 (T:Tab):Prop where
 e:T.en 333=none
 f:T.fn 333=some logic_Do_4
structure H_logic_Do_5 (T:Tab):Prop where
 e:T.en 335=none
 f:T.fn 335=some logic_Do_5
structure H_logic_Do_6 (T:Tab):Prop where
 e:T.en 336=none
 f:T.fn 336=some logic_Do_6
structure H_logic_Do_7 (T:Tab):Prop where
 e:T.en 337=none
 f:T.fn 337=some logic_Do_7
structure H_object_Bool (T:Tab):Prop where
 e:T.en 343=none
 f:T.fn 343=some object_Bool
structure H_stack_Push (T:Tab):Prop where
 e:T.en 344=none
 f:T.fn 344=some stack_Push
structure H_logic_Do_8 (T:Tab):Prop where
 e:T.en 346=none
 f:T.fn 346=some logic_Do_8
 object_Bool:H_object_Bool T
structure H_slices_Equal_api_Obj_api_Obj (T:Tab):Prop where
 e:T.en 358=none
 f:T.fn 358=some slices_Equal_api_Obj_api_Obj
structure H_chaseref11_sameObjs (T:Tab):Prop where
 e:T.en 360=none
 f:T.fn 360=some chaseref11_sameObjs
structure H_chaseref11_SameG (T:Tab):Prop where
 e:T.en 361=none
 f:T.fn 361=some chaseref11_SameG
structure H_logic_Text_1 (T:Tab):Prop where
 e:T.en 362=none
 f:T.fn 362=some logic_Text_1
structure H_logic_Text_2 (T:Tab):Prop where
 e:T.en 363=none
 f:T.fn 363=some logic_Text_2
 strconv_FormatBool:H_strconv_FormatBool T
structure H_logic_Text_3 (T:Tab):Prop where
 e:T.en 364=none
 f:T.fn 364=some logic_Text_3
 strconv_Itoa:H_strconv_Itoa T
structure H_object_kind_number (T:Tab):Prop where
 e:T.en 379=none
 f:T.fn 379=some object_kind_number
structure H_object_kind_named (T:Tab):Prop where
 e:T.en 380=none
 f:T.fn 380=some object_kind_named
structure H_logic_allows (T:Tab):Prop where
 e:T.en 383=none
 f:T.fn 383=some logic_allows
structure H_logic_executable_1 (T:Tab):Prop where
 e:T.en 389=none
 f:T.fn 389=some logic_executable_1
structure H_heap_view_cell (T:Tab):Prop where
 e:T.en 401=none
 f:T.fn 401=some heap_view_cell
structure H_chaseref11_SameCell (T:Tab):Prop where
 e:T.en 402=none
 f:T.fn 402=some chaseref11_SameCell
 chaseref11_sameObjs:H_chaseref11_sameObjs T
structure H_object_kind_longest (T:Tab):Prop where
 e:T.en 417=none
 f:T.fn 417=some object_kind_longest
structure H_stack_Top (T:Tab):Prop where
 e:T.en 418=none
 f:T.fn 418=some stack_Top
structure H_stack_Drop (T:Tab):Prop where
 e:T.en 419=none
 f:T.fn 419=some stack_Drop
structure H_object_Name_1 (T:Tab):Prop where
 e:T.en 421=none
 f:T.fn 421=some object_Name_1
structure H_object_number_value (T:Tab):Prop where
 e:T.en 425=none
 f:T.fn 425=some object_number_value
structure H_object_Int_1 (T:Tab):Prop where
 e:T.en 427=none
 f:T.fn 427=some object_Int_1
structure H_object_Real_1 (T:Tab):Prop where
 e:T.en 428=none
 f:T.fn 428=some object_Real_1
structure H_heap_view_room (T:Tab):Prop where
 e:T.en 439=none
 f:T.fn 439=some heap_view_room
structure H_heap_replaced_byte (T:Tab):Prop where
 e:T.en 440=none
 f:T.fn 440=some heap_replaced_byte
structure H_heap_view_with (T:Tab):Prop where
 e:T.en 441=none
 f:T.fn 441=some heap_view_with
structure H_strconv_small (T:Tab):Prop where
 e:T.en 442=none
 f:T.fn 442=some strconv_small
structure H_strconv_formatBase10 (T:Tab):Prop where
 e:T.en 444=none
 f:T.fn 444=some strconv_formatBase10
structure H_slices_Index_int_int (T:Tab):Prop where
 e:T.en 446=none
 f:T.fn 446=some slices_Index_int_int
structure H_math_bits_Len64 (T:Tab):Prop where
 e:T.en 53=none
 f:T.fn 53=some math_bits_Len64
structure H_strconv_log10Pow2 (T:Tab):Prop where
 e:T.en 447=none
 f:T.fn 447=some strconv_log10Pow2
structure H_strconv_bool2_int (T:Tab):Prop where
 e:T.en 448=none
 f:T.fn 448=some strconv_bool2_int
structure H_strconv_isPowerOfTwo (T:Tab):Prop where
 e:T.en 449=none
 f:T.fn 449=some strconv_isPowerOfTwo
structure H_math_bits_TrailingZeros32 (T:Tab):Prop where
 e:T.en 451=none
 f:T.fn 451=some math_bits_TrailingZeros32
structure H_math_bits_TrailingZeros64 (T:Tab):Prop where
 e:T.en 452=none
 f:T.fn 452=some math_bits_TrailingZeros64
structure H_chaselaw14_b (T:Tab):Prop where
 e:T.en 302=none
 f:T.fn 302=some chaselaw14_b
 chaseref10_Bool:H_chaseref10_Bool T
structure H_logic_executable (T:Tab):Prop where
 e:T.en 347=none
 f:T.fn 347=some logic_executable
 logic_executable_1:H_logic_executable_1 T
structure H_chaseref11_Same (T:Tab):Prop where
 e:T.en 359=none
 f:T.fn 359=some chaseref11_Same
 chaseref11_SameCell:H_chaseref11_SameCell T
structure H_object_kind_referring (T:Tab):Prop where
 e:T.en 381=none
 f:T.fn 381=some object_kind_referring
 object_kind_longest:H_object_kind_longest T
structure H_logic_judge_operands (T:Tab):Prop where
 e:T.en 382=none
 f:T.fn 382=some logic_judge_operands
 stack_Top:H_stack_Top T
 logic_allows:H_logic_allows T
structure H_logic_judge_result (T:Tab):Prop where
 e:T.en 386=none
 f:T.fn 386=some logic_judge_result
 stack_Drop:H_stack_Drop T
 stack_Push:H_stack_Push T
structure H_slices_Contains_int_int (T:Tab):Prop where
 e:T.en 432=none
 f:T.fn 432=some slices_Contains_int_int
 slices_Index_int_int:H_slices_Index_int_int T
structure H_strconv_numDigits (T:Tab):Prop where
 e:T.en 443=none
 f:T.fn 443=some strconv_numDigits
 math_bits_Len64:H_math_bits_Len64 T
 strconv_log10Pow2:H_strconv_log10Pow2 T
 strconv_bool2_int:H_strconv_bool2_int T
structure H_math_bits_TrailingZeros (T:Tab):Prop where
 e:T.en 450=none
 f:T.fn 450=some math_bits_TrailingZeros
 math_bits_TrailingZeros32:H_math_bits_TrailingZeros32 T
 math_bits_TrailingZeros64:H_math_bits_TrailingZeros64 T
structure H_chaseref11_SameState (T:Tab):Prop where
 e:T.en 315=none
 f:T.fn 315=some chaseref11_SameState
 chaseref11_sameObjs:H_chaseref11_sameObjs T
 chaseref11_Same:H_chaseref11_Same T
 chaseref11_SameG:H_chaseref11_SameG T
structure H_object_Check (T:Tab):Prop where
 e:T.en 326=none
 f:T.fn 326=some object_Check
 object_kinds:H_object_kinds T
 object_kind_number:H_object_kind_number T
 object_kind_named:H_object_kind_named T
 object_kind_referring:H_object_kind_referring T
structure H_logic_judge_bits (T:Tab):Prop where
 e:T.en 338=none
 f:T.fn 338=some logic_judge_bits
 logic_judge_operands:H_logic_judge_operands T
 logic_judge_result:H_logic_judge_result T
structure H_logic_judge_one (T:Tab):Prop where
 e:T.en 339=none
 f:T.fn 339=some logic_judge_one
 logic_judge_operands:H_logic_judge_operands T
 logic_judge_result:H_logic_judge_result T
structure H_logic_judge_not (T:Tab):Prop where
 e:T.en 341=none
 f:T.fn 341=some logic_judge_not
 logic_judge_operands:H_logic_judge_operands T
 logic_judge_result:H_logic_judge_result T
structure H_logic_judge_bitshift (T:Tab):Prop where
 e:T.en 342=none
 f:T.fn 342=some logic_judge_bitshift
 logic_judge_operands:H_logic_judge_operands T
 logic_judge_result:H_logic_judge_result T
structure H_object_made_string (T:Tab):Prop where
 e:T.en 422=none
 f:T.fn 422=some object_made_string
 object_Check:H_object_Check T
structure H_object_numberOf (T:Tab):Prop where
 e:T.en 424=none
 f:T.fn 424=some object_numberOf
 object_Check:H_object_Check T
structure H_object_made_int (T:Tab):Prop where
 e:T.en 426=none
 f:T.fn 426=some object_made_int
 object_Check:H_object_Check T
structure H_heap_Interval (T:Tab):Prop where
 e:T.en 429=none
 f:T.fn 429=some heap_Interval
 object_Check:H_object_Check T
structure H_strconv_formatBits (T:Tab):Prop where
 e:T.en 445=none
 f:T.fn 445=some strconv_formatBits
 strconv_isPowerOfTwo:H_strconv_isPowerOfTwo T
 math_bits_TrailingZeros:H_math_bits_TrailingZeros T
structure H_heap_Fits (T:Tab):Prop where
 e:T.en 304=none
 f:T.fn 304=some heap_Fits
 object_Check:H_object_Check T
 heap_cellKind:H_heap_cellKind T
 heap_length:H_heap_length T
structure H_object_KindName (T:Tab):Prop where
 e:T.en 305=none
 f:T.fn 305=some object_KindName
 object_Check:H_object_Check T
 object_kinds:H_object_kinds T
structure H_object_Name (T:Tab):Prop where
 e:T.en 388=none
 f:T.fn 388=some object_Name
 object_Name_1:H_object_Name_1 T
 object_made_string:H_object_made_string T
structure H_object_Value (T:Tab):Prop where
 e:T.en 391=none
 f:T.fn 391=some object_Value
 object_numberOf:H_object_numberOf T
 object_number_value:H_object_number_value T
structure H_object_Int (T:Tab):Prop where
 e:T.en 392=none
 f:T.fn 392=some object_Int
 object_made_int:H_object_made_int T
 object_Int_1:H_object_Int_1 T
structure H_object_Real (T:Tab):Prop where
 e:T.en 393=none
 f:T.fn 393=some object_Real
 object_made_int:H_object_made_int T
 object_Real_1:H_object_Real_1 T
structure H_heap_viewOf (T:Tab):Prop where
 e:T.en 400=none
 f:T.fn 400=some heap_viewOf
 heap_Fits:H_heap_Fits T
 slices_Contains_int_int:H_slices_Contains_int_int T
structure H_heap_PutBytes (T:Tab):Prop where
 e:T.en 430=none
 f:T.fn 430=some heap_PutBytes
 heap_viewOf:H_heap_viewOf T
 heap_view_room:H_heap_view_room T
 heap_view_cell:H_heap_view_cell T
 heap_replaced_byte:H_heap_replaced_byte T
 heap_view_with:H_heap_view_with T
structure H_istrconv_FormatUint (T:Tab):Prop where
 e:T.en 431=none
 f:T.fn 431=some istrconv_FormatUint
 strconv_small:H_strconv_small T
 strconv_numDigits:H_strconv_numDigits T
 strconv_formatBase10:H_strconv_formatBase10 T
 strconv_formatBits:H_strconv_formatBits T
structure H_logic_kindOf (T:Tab):Prop where
 e:T.en 345=none
 f:T.fn 345=some logic_kindOf
 object_KindName:H_object_KindName T
 object_Name:H_object_Name T
structure H_object_ToInt (T:Tab):Prop where
 e:T.en 350=none
 f:T.fn 350=some object_ToInt
 object_Value:H_object_Value T
 object_Int:H_object_Int T
structure H_object_ToReal (T:Tab):Prop where
 e:T.en 351=none
 f:T.fn 351=some object_ToReal
 object_Value:H_object_Value T
 object_Real:H_object_Real T
structure H_heap_Bytes (T:Tab):Prop where
 e:T.en 357=none
 f:T.fn 357=some heap_Bytes
 heap_viewOf:H_heap_viewOf T
 heap_view_cell:H_heap_view_cell T
structure H_logic_Text_5 (T:Tab):Prop where
 e:T.en 366=none
 f:T.fn 366=some logic_Text_5
 heap_Bytes:H_heap_Bytes T
structure H_object_Compare (T:Tab):Prop where
 e:T.en 385=none
 f:T.fn 385=some object_Compare
 object_Check:H_object_Check T
 object_Value:H_object_Value T
structure H_logic_judge_put (T:Tab):Prop where
 e:T.en 394=none
 f:T.fn 394=some logic_judge_put
 heap_Interval:H_heap_Interval T
 heap_PutBytes:H_heap_PutBytes T
 logic_judge_result:H_logic_judge_result T
structure H_strconv_FormatUint (T:Tab):Prop where
 e:T.en 395=none
 f:T.fn 395=some strconv_FormatUint
 istrconv_FormatUint:H_istrconv_FormatUint T
structure H_logic_printed (T:Tab):Prop where
 e:T.en 404=none
 f:T.fn 404=some logic_printed
 real_Print:H_real_Print T
structure H_heap_octets (T:Tab):Prop where
 e:T.en 420=none
 f:T.fn 420=some heap_octets
 heap_Bytes:H_heap_Bytes T
structure H_logic_judge_compare (T:Tab):Prop where
 e:T.en 334=none
 f:T.fn 334=some logic_judge_compare
 logic_judge_operands:H_logic_judge_operands T
 logic_allows:H_logic_allows T
 heap_Bytes:H_heap_Bytes T
 strings_Compare:H_strings_Compare T
 object_Compare:H_object_Compare T
 object_Bool:H_object_Bool T
 logic_judge_result:H_logic_judge_result T
structure H_logic_judge_named (T:Tab):Prop where
 e:T.en 348=none
 f:T.fn 348=some logic_judge_named
 heap_Bytes:H_heap_Bytes T
 object_Name:H_object_Name T
structure H_logic_Text_4 (T:Tab):Prop where
 e:T.en 365=none
 f:T.fn 365=some logic_Text_4
 logic_printed:H_logic_printed T
structure H_heap_Equal (T:Tab):Prop where
 e:T.en 387=none
 f:T.fn 387=some heap_Equal
 heap_Fits:H_heap_Fits T
 object_Compare:H_object_Compare T
 heap_octets:H_heap_octets T
structure H_logic_Text (T:Tab):Prop where
 e:T.en 316=none
 f:T.fn 316=some logic_Text
 heap_Fits:H_heap_Fits T
 logic_Text_1:H_logic_Text_1 T
 logic_Text_2:H_logic_Text_2 T
 logic_Text_3:H_logic_Text_3 T
 logic_Text_4:H_logic_Text_4 T
 logic_Text_5:H_logic_Text_5 T
structure H_logic_judge_same (T:Tab):Prop where
 e:T.en 340=none
 f:T.fn 340=some logic_judge_same
 logic_judge_operands:H_logic_judge_operands T
 heap_Equal:H_heap_Equal T
 object_Bool:H_object_Bool T
 logic_judge_result:H_logic_judge_result T
structure H_logic_judge_cvs (T:Tab):Prop where
 e:T.en 352=none
 f:T.fn 352=some logic_judge_cvs
 logic_judge_operands:H_logic_judge_operands T
 logic_Text:H_logic_Text T
 logic_judge_put:H_logic_judge_put T
structure H_logic_judge_cvrs (T:Tab):Prop where
 e:T.en 353=none
 f:T.fn 353=some logic_judge_cvrs
 logic_judge_operands:H_logic_judge_operands T
 logic_Text:H_logic_Text T
 object_ToInt:H_object_ToInt T
 strconv_FormatUint:H_strconv_FormatUint T
 strings_ToUpper:H_strings_ToUpper T
 logic_judge_put:H_logic_judge_put T
structure H_logic_judge_number (T:Tab):Prop where
 e:T.en 423=none
 f:T.fn 423=some logic_judge_number
 heap_Bytes:H_heap_Bytes T
 lex_Number:H_lex_Number T
 object_Real:H_object_Real T
 object_Int:H_object_Int T
structure H_logic_converted_api_Obj_1 (T:Tab):Prop where
 e:T.en 390=none
 f:T.fn 390=some logic_converted_api_Obj_1
 logic_judge_number:H_logic_judge_number T
structure H_logic_converted_api_Obj (T:Tab):Prop where
 e:T.en 349=none
 f:T.fn 349=some logic_converted_api_Obj
 logic_converted_api_Obj_1:H_logic_converted_api_Obj_1 T
structure H_logic_Do (T:Tab):Prop where
 e:T.en 308=none
 f:T.fn 308=some logic_Do
 logic_Do_1:H_logic_Do_1 T
 logic_Do_2:H_logic_Do_2 T
 logic_Do_3:H_logic_Do_3 T
 logic_Do_4:H_logic_Do_4 T
 logic_judge_compare:H_logic_judge_compare T
 logic_Do_5:H_logic_Do_5 T
 logic_Do_6:H_logic_Do_6 T
 logic_Do_7:H_logic_Do_7 T
 logic_judge_bits:H_logic_judge_bits T
 logic_judge_one:H_logic_judge_one T
 logic_judge_same:H_logic_judge_same T
 logic_judge_not:H_logic_judge_not T
 logic_judge_bitshift:H_logic_judge_bitshift T
 object_Bool:H_object_Bool T
 stack_Push:H_stack_Push T
 logic_kindOf:H_logic_kindOf T
 logic_Do_8:H_logic_Do_8 T
 logic_executable:H_logic_executable T
 logic_judge_named:H_logic_judge_named T
 logic_converted_api_Obj:H_logic_converted_api_Obj T
 object_ToInt:H_object_ToInt T
 object_ToReal:H_object_ToReal T
 logic_judge_cvs:H_logic_judge_cvs T
 logic_judge_cvrs:H_logic_judge_cvrs T
structure H_chaselaw14_gives (T:Tab):Prop where
 e:T.en 312=none
 f:T.fn 312=some chaselaw14_gives
 logic_Do:H_logic_Do T
structure H_chaselaw14_writes (T:Tab):Prop where
 e:T.en 313=none
 f:T.fn 313=some chaselaw14_writes
 logic_Do:H_logic_Do T
 heap_Bytes:H_heap_Bytes T
structure H_chaselaw14_fails (T:Tab):Prop where
 e:T.en 314=none
 f:T.fn 314=some chaselaw14_fails
 logic_Do:H_logic_Do T
 slices_Equal_api_Obj_api_Obj:H_slices_Equal_api_Obj_api_Obj T
 chaseref11_Same:H_chaseref11_Same T
structure H_chaselaw14_wakes (T:Tab):Prop where
 e:T.en 300=none
 f:T.fn 300=some chaselaw14_wakes
 chaselaw14_strings:H_chaselaw14_strings T
 chaselaw14_b:H_chaselaw14_b T
 chaselaw14_i:H_chaselaw14_i T
 chaselaw14_r:H_chaselaw14_r T
 chaselaw14_gives:H_chaselaw14_gives T
 chaselaw14_writes:H_chaselaw14_writes T
 chaselaw14_fails:H_chaselaw14_fails T
structure H_chaselaw14_LogicKnown (T:Tab):Prop where
 e:T.en 296=none
 f:T.fn 296=some chaselaw14_LogicKnown
 chaselaw14_wakes:H_chaselaw14_wakes T
 chaselaw14_strings:H_chaselaw14_strings T
 chaselaw14_b:H_chaselaw14_b T
 chaselaw14_gives:H_chaselaw14_gives T
 chaselaw14_i:H_chaselaw14_i T
 chaselaw14_r:H_chaselaw14_r T
 chaselaw14_writes:H_chaselaw14_writes T
 chaselaw14_fails:H_chaselaw14_fails T
 logic_Do:H_logic_Do T
 chaseref11_SameState:H_chaseref11_SameState T
 logic_Text:H_logic_Text T
end Go.Ev.B
