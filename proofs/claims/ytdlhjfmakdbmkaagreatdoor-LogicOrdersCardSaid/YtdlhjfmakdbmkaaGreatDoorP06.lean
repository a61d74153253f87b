/- The abstract bodies of the functions, printed by a program of this work. -/
import Derived.Test.YtdlhjfmakdbmkaaGreatDoorP05
set_option linter.unusedSimpArgs false
set_option linter.unusedVariables false
set_option linter.unusedSectionVars false
namespace Go.Ev.B
open Go
def zOb:List AV:=[(.int .i64 0),(.bool false),(.int .i64 0),(.str []),(.int .i64 0),(.int .i64 0),(.int .i64 0)]
def zCe:List AV:=[(.int .i64 0),(.str []),.Zc,.Zc,.Zc,(.int .i64 0),(.int .i64 0)]
def zKd:List AV:=[(.str []),(.int .i64 0),(.int .i64 0),(.int .i64 0),(.int .i64 0),(.int .i64 0)]
def Qi:List AV:=[.Zc,.Zc,.Zc,.Zc,(.int .i64 0),(.int .i64 0),(.int .i64 0),(.int .i64 0),(.int .i64 0),(.int .i64 0),(.int .i64 0),.Zc,
 (.int .i64 0),(.int .i64 0),(.int .i64 0),(.int .i64 0),(.int .i64 0),(.int .i64 0),(.int .i64 0),(.int .i64 0),(.int .i64 0),(.int .i64 0),(.int .i64 0),(.int .i64 0),(.int
 .i64 0),(.int .i64 0),(.int .i64 0),(.int .i64 0),(.int .i64 0),(.int .i64 0),(.int .i64 0),(.int .i64 0),(.bool false),(.bool false),.Zc,(.int .i64 0),(.int .i64
 0),(.int .i64 0),(.int .i64 0),(.int .i64 0),(.int .i64 0),(.int .i64 0),(.int .i64 0),.Zc,(.int .i64 0),(.int .i64 0),.Zc,(.int .i64 0),(.bool false),(.int
 .i64 0),(.str []),(.int .i64 0),(.int .i64 0),(.int .i64 0),(.int .i64 0),(.int .i64 0),(.int .i64 0),(.int .i64 0),(.int .i64 0),(.int .i64 0),(.int .i64 0),(.int .i64
 0),.Zc,.Zc,.Zc,(.str []),(.int .i64 0)]
def z533:List AV:=[(.str []),(.int .i64 0),(.int .i64 0),(.int .i64 0),(.int .i64 0),(.int .i64 0),(.str []),(.int .i64 0),(.int .i64 0),(.int .i64 0),(.int .i64 0),(.int
 .i64 0),(.str []),(.int .i64 0),(.int .i64 0),(.int .i64 0),(.int .i64 0),(.int .i64 0),(.str []),(.int .i64 0),(.int .i64 0),(.int .i64 0),(.int .i64 0),(.int .i64 0),
 (.str []),(.int .i64 0),(.int .i64 0),(.int .i64 0),(.int .i64 0),(.int .i64 0),(.str []),(.int .i64 0),(.int .i64 0),(.int .i64 0),(.int .i64 0),(.int .i64 0),(.str []),
 (.int .i64 0),(.int .i64 0),(.int .i64 0),(.int .i64 0),(.int .i64 0),(.str []),(.int .i64 0),(.int .i64 0),(.int .i64 0),(.int .i64 0),(.int .i64 0),(.str []),(.int .i64
 0),(.int .i64 0),(.int .i64 0),(.int .i64 0),(.int .i64 0),(.str []),(.int .i64 0),(.int .i64 0),(.int .i64 0),(.int .i64 0),(.int .i64 0),(.str []),(.int .i64 0),(.int
 .i64 0),(.int .i64 0),(.int .i64 0),(.int .i64 0),(.str []),(.int .i64 0),(.int .i64 0),(.int .i64 0),(.int .i64 0),(.int .i64 0),(.str []),(.int .i64 0),(.int .i64 0),
 (.int .i64 0),(.int .i64 0),(.int .i64 0)]
def Yh:Qa:=⟨2,[.t 4],(.seq (.Ze [n 2 (.box 430 true 0),n 3 (.box 475 true 1),p 4 (.Za (.k (.bool false)))]) (.seq (.seq (.Ze [w 20 (.call (.k (.fn 300
 [] [])) []),p 21 (.un .not 20)]) (.cond 21 (.seq (.Ze [p 4 (.Za (.k (.bool false)))]) .ret) .skip)) (.seq (.Ze [r 22 (.load (some 3) 2),w 23 (.call (.k (.fn 309 [] [])) [22]),
 p 5 (.Za 23)]) (.seq (.Kv [.op 0 (p 24 (.Nq 2 5 3 (.k (.int .i64 0)))),.op 1 (r 25 (.load (some 5) 24)),.op 4 (p 28 (.Nq 2 5 3 (.k (.int .i64 1)))),.op 5 (r 29 (.load
 (some 5) 28)),.op 2 (p 26 (.Za 5)),.op 3 (w 27 (.call (.k (.fn 310 [] [])) [25,26])),.re 5,.op 6 (p 30 (.Za 5)),.op 7 (w 31 (.call (.k (.fn 310 [] [])) [29,30])),.op 8 (n
 6 (.alloc 451 true zOb)),.op 9 (n 7 (.alloc 451 true zOb)),.op 10 (w0 (.store 7 6 27)),.op 11 (w0 (.store 7 7 31))]) (.seq (.Zd [5,6,7]) (.seq (.Ze [p 33 (.Za 5),r 34 (.load
 (some 7) 6),r 35 (.load (some 7) 7),n 36 (.Qe 451 2 [(.int .i64 0),(.bool false),(.int .i64 0),(.str []),(.int .i64 0),(.int .i64 0),(.int .i64 0),(.int .i64 0),(.bool
 false),(.int .i64 0),(.str []),(.int .i64 0),(.int .i64 0),(.int .i64 0)] [(0,7,34),(7,7,35)]),w 37 (.call (.k (.fn 303 [] [])) [33,(.k (.str [101,113])),36]),p 32 (.Za
 37),p 38 (.Zq 0 32),p 39 (.Zq 1 32),n 8 (.alloc 451 true zOb),w0 (.store 7 8 38),p 9 (.Za 39)]) (.seq (.Zd [5,6,7,8,9]) (.seq (.Ze [p 41 (.Za 5),r 42 (.load (some
 7) 6),r 43 (.load (some 7) 7),n 44 (.Qe 451 2 [(.int .i64 0),(.bool false),(.int .i64 0),(.str []),(.int .i64 0),(.int .i64 0),(.int .i64 0),(.int .i64 0),(.bool false),
 (.int .i64 0),(.str []),(.int .i64 0),(.int .i64 0),(.int .i64 0)] [(0,7,42),(7,7,43)]),w 45 (.call (.k (.fn 303 [] [])) [41,(.k (.str [110,101])),44]),p 40 (.Za 45),
 p 46 (.Zq 0 40),p 47 (.Zq 1 40),n 10 (.alloc 451 true zOb),w0 (.store 7 10 46),p 11 (.Za 47)]) (.seq (.Zd [5,6,7,8,9,10,11]) (.seq (.seq (.Ze [p 48 (.Za 9),p 49
 (.un .not 48),p 50 (.Za 49),pg 51 50 false (.Za 11),pg 52 50 false (.un .not 51),p 53 (.pick 50 (.k (.bool true)) 52),p 54 (.Za 53),pg 55 54 false (.Zi 0 8),rg 56 54 false
 (.load none 55),pg 57 54 false (.bin .neq 56 (.k (.int .i64 2))),p 58 (.pick 54 (.k (.bool true)) 57),p 59 (.Za 58),pg 60 59 false (.Zi 0 10),rg 61 59 false (.load none 60),
 pg 62 59 false (.bin .neq 61 (.k (.int .i64 2))),p 63 (.pick 59 (.k (.bool true)) 62),p 64 (.Za 63),pg 65 64 false (.Zi 2 8),rg 66 64 false (.load none 65),pg 67 64 false (.Zi
 2 10),rg 68 64 false (.load none 67),pg 69 64 false (.bin .add 66 68),pg 70 64 false (.bin .neq 69 (.k (.int .i64 1))),p 71 (.pick 64 (.k (.bool true)) 70)]) (.seq (.Zd [5,6,
 7,8,71]) (.cond 71 (.seq (.Ze [p 4 (.Za (.k (.bool false)))]) .ret) .skip))) (.seq (.Zd [5,6,7,8]) (.seq (.Ze [p 73 (.Za 5),r 74 (.load (some 7) 6),r 75 (.load (some 7)
 7),n 76 (.Qe 451 2 [(.int .i64 0),(.bool false),(.int .i64 0),(.str []),(.int .i64 0),(.int .i64 0),(.int .i64 0),(.int .i64 0),(.bool false),(.int .i64 0),(.str []),
 (.int .i64 0),(.int .i64 0),(.int .i64 0)] [(0,7,74),(7,7,75)]),w 77 (.call (.k (.fn 303 [] [])) [73,(.k (.str [108,116])),76]),p 72 (.Za 77),p 78 (.Zq 0 72),p 79 (.Zq
 1 72),n 12 (.alloc 451 true zOb),w0 (.store 7 12 78),p 9 (.Za 79)]) (.seq (.Zd [5,6,7,8,9,12]) (.seq (.Ze [p 81 (.Za 5),r 82 (.load (some 7) 6),r 83 (.load (some 7) 7),
 n 84 (.Qe 451 2 [(.int .i64 0),(.bool false),(.int .i64 0),(.str []),(.int .i64 0),(.int .i64 0),(.int .i64 0),(.int .i64 0),(.bool false),(.int .i64 0),(.str []),(.int
 .i64 0),(.int .i64 0),(.int .i64 0)] [(0,7,82),(7,7,83)]),w 85 (.call (.k (.fn 303 [] [])) [81,(.k (.str [103,116])),84]),p 80 (.Za 85),p 86 (.Zq 0 80),p 87 (.Zq
 1 80),n 13 (.alloc 451 true zOb),w0 (.store 7 13 86),p 11 (.Za 87)]) (.seq (.Zd [5,6,7,8,9,11,12,13]) (.seq (.Ze [p 89 (.Za 5),r 90 (.load (some 7) 6),r 91 (.load (some
 7) 7),n 92 (.Qe 451 2 [(.int .i64 0),(.bool false),(.int .i64 0),(.str []),(.int .i64 0),(.int .i64 0),(.int .i64 0),(.int .i64 0),(.bool false),(.int .i64 0),(.str
 []),(.int .i64 0),(.int .i64 0),(.int .i64 0)] [(0,7,90),(7,7,91)]),w 93 (.call (.k (.fn 303 [] [])) [89,(.k (.str [108,101])),92]),p 88 (.Za 93),p 94 (.Zq 0 88),p
 95 (.Zq 1 88),n 14 (.alloc 451 true zOb),w0 (.store 7 14 94),p 15 (.Za 95)]) (.seq (.Zd [5,6,7,8,9,11,12,13,14,15]) (.seq (.Ze [p 97 (.Za 5),r 98 (.load (some 7)
 6),r 99 (.load (some 7) 7),n 100 (.Qe 451 2 [(.int .i64 0),(.bool false),(.int .i64 0),(.str []),(.int .i64 0),(.int .i64 0),(.int .i64 0),(.int .i64 0),(.bool false),
 (.int .i64 0),(.str []),(.int .i64 0),(.int .i64 0),(.int .i64 0)] [(0,7,98),(7,7,99)]),w 101 (.call (.k (.fn 303 [] [])) [97,(.k (.str [103,101])),100]),p 96 (.Za 101),
 p 102 (.Zq 0 96),p 103 (.Zq 1 96),n 16 (.alloc 451 true zOb),w0 (.store 7 16 102),p 17 (.Za 103)]) (.seq (.Zd [6,7,8,9,11,12,13,14,15,16,17]) (.seq (.Ze [p 18
 (.Za (.k (.fn 311 [] [])))]) (.seq (.Ze [p 104 (.Za 18),r 105 (.load (some 7) 6),w 106 (.call 104 [105]),p 107 (.Za 106),pg 108 107 true (.Za 18),rg 109 107 true (.load (some
 7) 7),wg 110 107 true (.call 108 [109]),p 111 (.pick 107 110 (.k (.bool false))),p 112 (.Za 111),pg 113 112 false (.Zi 0 6),rg 114 112 false (.load none 113),pg 115 112 false
 (.bin .eql 114 (.k (.int .i64 6))),pg 116 112 false (.Za 115),pg 117 116 true (.Zi 0 7),rg 118 116 true (.load none 117),pg 119 116 true (.bin .eql 118 (.k (.int .i64 6))),
 pg 120 112 false (.pick 116 119 (.k (.bool false))),p 121 (.pick 112 (.k (.bool true)) 120),p 19 (.Za 121)]) (.seq (.Zd [8,9,11,12,13,14,15,16,17,19]) (.seq (.seq (.Ze
 [p 122 (.Za 9),p 123 (.Za 19),p 124 (.eqB true 122 123),p 125 (.Za 124),pg 126 125 false (.Za 11),pg 127 125 false (.Za 19),pg 128 125 false (.eqB true 126 127),p 129 (.pick
 125 (.k (.bool true)) 128),p 130 (.Za 129),pg 131 130 false (.Za 15),pg 132 130 false (.Za 19),pg 133 130 false (.eqB true 131 132),p 134 (.pick 130 (.k (.bool true)) 133),
 p 135 (.Za 134),pg 136 135 false (.Za 17),pg 137 135 false (.Za 19),pg 138 135 false (.eqB true 136 137),p 139 (.pick 135 (.k (.bool true)) 138)]) (.seq (.Zd [8,12,13,14,
 16,19,139]) (.cond 139 (.seq (.Ze [p 4 (.Za (.k (.bool false)))]) .ret) .skip))) (.seq (.Zd [8,12,13,14,16,19]) (.seq (.Ze [p 140 (.Za 19),p 141 (.un .not 140),p 142
 (.Za 141),pg 143 142 false (.Zi 2 12),rg 144 142 false (.load none 143),pg 145 142 false (.Zi 2 8),rg 146 142 false (.load none 145),pg 147 142 false (.bin .add 144 146),
 pg 148 142 false (.Zi 2 13),rg 149 142 false (.load none 148),pg 150 142 false (.bin .add 147 149),pg 151 142 false (.bin .eql 150 (.k (.int .i64 1))),pg 152 142 false (.Za
 151),pg 153 152 true (.Zi 2 14),rg 154 152 true (.load none 153),pg 155 152 true (.Zi 2 12),rg 156 152 true (.load none 155),pg 157 152 true (.Zi 2 8),rg 158 152 true
 (.load none 157),pg 159 152 true (.bin .add 156 158),pg 160 152 true (.bin .eql 154 159),pg 161 142 false (.pick 152 160 (.k (.bool false))),pg 162 142 false (.Za 161),pg 163
 162 true (.Zi 2 16),rg 164 162 true (.load none 163),pg 165 162 true (.Zi 2 13),rg 166 162 true (.load none 165),pg 167 162 true (.Zi 2 8),rg 168 162 true (.load none
 167),pg 169 162 true (.bin .add 166 168),pg 170 162 true (.bin .eql 164 169),pg 171 142 false (.pick 162 170 (.k (.bool false))),p 172 (.pick 142 (.k (.bool true)) 171),p 4 (.Za
 172)]) .ret)))))))))))))))))))))))))⟩
def Ui:Qa:=⟨0,[.t 0],(.seq (.Ze [p 0 (.Za (.k (.bool false)))]) (.seq (.Ze [n 4 (.Qe 9 5 [(.str []),(.str []),(.str []),(.str []),(.str [])] [(0,1,
 (.k (.str [97,98]))),(1,1,(.k (.str [98]))),(2,1,(.k (.str [49,54,35,102,102]))),(3,1,(.k (.str [97,98,99,100,101]))),(4,1,(.k (.str [120])))]),w 5 (.call (.k
 (.fn 306 [] [])) [4]),p 3 (.Za 5),p 6 (.Zq 0 3),p 7 (.Zq 1 3),p 1 (.Za 6),p 2 (.Za 7)]) (.seq (.Kv [.op 1 (w 9 (.call (.k (.fn 302 [] [])) [(.k (.bool true))])),.op 2
 (w 10 (.call (.k (.fn 301 [] [])) [(.k (.int .i64 1))])),.op 3 (w 11 (.call (.k (.fn 307 [] [])) [(.k (.int .i64 65536))])),.op 0 (p 8 (.Za 1)),.op 4 (n 12 (.Qe 451 2 [(.int
 .i64 0),(.bool false),(.int .i64 0),(.str []),(.int .i64 0),(.int .i64 0),(.int .i64 0),(.int .i64 0),(.bool false),(.int .i64 0),(.str []),(.int .i64 0),(.int .i64 0),
 (.int .i64 0)] [(0,7,10),(7,7,11)])),.op 5 (w 13 (.call (.k (.fn 312 [] [])) [8,(.k (.str [101,113])),9,12])),.op 6 (p 14 (.Za 13)),.op 9 (pg 17 14 true (.Za 2)),.op
 10 (pg 18 14 true (.Zu 7 17 (.k (.int .i64 0)))),.op 11 (rg 19 14 true (.load (some 7) 18)),.op 12 (pg 20 14 true (.Za 2)),.op 13 (pg 21 14 true (.Zu 7 20 (.k (.int .i64
 1)))),.op 14 (rg 22 14 true (.load (some 7) 21)),.op 8 (wg 16 14 true (.call (.k (.fn 302 [] [])) [(.k (.bool true))])),.re 11,.re 14,.op 7 (pg 15 14 true (.Za 1)),.op 15 (ng
 23 14 true (.Qe 451 2 [(.int .i64 0),(.bool false),(.int .i64 0),(.str []),(.int .i64 0),(.int .i64 0),(.int .i64 0),(.int .i64 0),(.bool false),(.int .i64 0),(.str []),
 (.int .i64 0),(.int .i64 0),(.int .i64 0)] [(0,7,19),(7,7,22)])),.op 16 (wg 24 14 true (.call (.k (.fn 312 [] [])) [15,(.k (.str [108,116])),16,23])),.op 17 (p 25 (.pick
 14 24 (.k (.bool false)))),.op 18 (p 26 (.Za 25)),.op 20 (wg 28 26 true (.call (.k (.fn 301 [] [])) [(.k (.int .i64 8))])),.op 21 (wg 29 26 true (.call (.k (.fn 301 [] [])) [(.k
 (.int .i64 12))])),.op 22 (wg 30 26 true (.call (.k (.fn 301 [] [])) [(.k (.int .i64 10))])),.op 19 (pg 27 26 true (.Za 1)),.op 23 (ng 31 26 true (.Qe 451 2 [(.int .i64 0),
 (.bool false),(.int .i64 0),(.str []),(.int .i64 0),(.int .i64 0),(.int .i64 0),(.int .i64 0),(.bool false),(.int .i64 0),(.str []),(.int .i64 0),(.int .i64 0),(.int .i64
 0)] [(0,7,29),(7,7,30)])),.op 24 (wg 32 26 true (.call (.k (.fn 312 [] [])) [27,(.k (.str [97,110,100])),28,31])),.op 25 (p 33 (.pick 26 32 (.k (.bool false)))),.op 26
 (p 34 (.Za 33)),.op 28 (wg 36 34 true (.call (.k (.fn 301 [] [])) [(.k (.int .i64 (-13)))])),.op 29 (wg 37 34 true (.call (.k (.fn 301 [] [])) [(.k (.int .i64 12))])),.op 27 (pg
 35 34 true (.Za 1)),.op 30 (ng 38 34 true (.Qe 451 1 zOb [(0,7,37)])),.op 31 (wg 39 34 true (.call (.k (.fn 312 [] [])) [35,(.k (.str [110,111,116])),36,38])),.op 32
 (p 40 (.pick 34 39 (.k (.bool false)))),.op 33 (p 41 (.Za 40)),.op 35 (wg 43 41 true (.call (.k (.fn 301 [] [])) [(.k (.int .i64 3))])),.op 36 (wg 44 41 true (.call (.k (.fn 301
 [] [])) [(.k (.int .i64 7))])),.op 37 (wg 45 41 true (.call (.k (.fn 301 [] [])) [(.k (.int .i64 (-1)))])),.op 34 (pg 42 41 true (.Za 1)),.op 38 (ng 46 41 true (.Qe 451 2 [(.int
 .i64 0),(.bool false),(.int .i64 0),(.str []),(.int .i64 0),(.int .i64 0),(.int .i64 0),(.int .i64 0),(.bool false),(.int .i64 0),(.str []),(.int .i64 0),(.int .i64 0),
 (.int .i64 0)] [(0,7,44),(7,7,45)])),.op 39 (wg 47 41 true (.call (.k (.fn 312 [] [])) [42,(.k (.str [98,105,116,115,104,105,102,116])),43,46])),.op 40 (p 48 (.pick
 41 47 (.k (.bool false)))),.op 41 (p 49 (.Za 48)),.op 44 (pg 52 49 true (.Za 2)),.op 45 (pg 53 49 true (.Zu 7 52 (.k (.int .i64 2)))),.op 46 (rg 54 49 true (.load (some 7)
 53)),.op 43 (wg 51 49 true (.call (.k (.fn 301 [] [])) [(.k (.int .i64 255))])),.re 46,.op 42 (pg 50 49 true (.Za 1)),.op 47 (ng 55 49 true (.Qe 451 1 zOb [(0,7,54)])),
 .op 48 (wg 56 49 true (.call (.k (.fn 312 [] [])) [50,(.k (.str [99,118,105])),51,55])),.op 49 (p 57 (.pick 49 56 (.k (.bool false)))),.op 50 (p 58 (.Za 57)),.op 52 (wg 60
 58 true (.call (.k (.fn 307 [] [])) [(.k (.int .i64 196608))])),.op 53 (wg 61 58 true (.call (.k (.fn 301 [] [])) [(.k (.int .i64 3))])),.op 51 (pg 59 58 true (.Za 1)),.op 54 (ng
 62 58 true (.Qe 451 1 zOb [(0,7,61)])),.op 55 (wg 63 58 true (.call (.k (.fn 312 [] [])) [59,(.k (.str [99,118,114])),60,62])),.op 56 (p 64 (.pick 58 63 (.k (.bool false)))),
 .op 57 (p 65 (.Za 64)),.op 58 (pg 66 65 true (.Za 1)),.op 59 (pg 67 65 true (.build zOb [(0,1,(.k (.int .i64 5))),(1,1,(.k (.bool true))),(3,1,(.k (.str [110,97,109,101,
 116,121,112,101])))])),.op 60 (pg 68 65 true (.build zOb [(0,1,(.k (.int .i64 5))),(3,1,(.k (.str [120])))])),.op 61 (ng 69 65 true (.Qe 451 1 zOb [(0,7,68)])),.op
 62 (wg 70 65 true (.call (.k (.fn 312 [] [])) [66,(.k (.str [116,121,112,101])),67,69])),.op 63 (p 71 (.pick 65 70 (.k (.bool false)))),.op 64 (p 72 (.Za 71)),.op 67 (pg 75
 72 true (.Za 2)),.op 68 (pg 76 72 true (.Zu 7 75 (.k (.int .i64 3)))),.op 69 (rg 77 72 true (.load (some 7) 76)),.op 66 (wg 74 72 true (.call (.k (.fn 301 [] [])) [(.k (.int
 .i64 (-12)))])),.re 69,.op 65 (pg 73 72 true (.Za 1)),.op 70 (ng 78 72 true (.Qe 451 2 [(.int .i64 0),(.bool false),(.int .i64 0),(.str []),(.int .i64 0),(.int .i64 0),
 (.int .i64 0),(.int .i64 0),(.bool false),(.int .i64 0),(.str []),(.int .i64 0),(.int .i64 0),(.int .i64 0)] [(0,7,74),(7,7,77)])),.op 71 (wg 79 72 true (.call (.k (.fn
 313 [] [])) [73,(.k (.str [99,118,115])),(.k (.str [45,49,50])),78])),.op 72 (p 80 (.pick 72 79 (.k (.bool false)))),.op 73 (p 81 (.Za 80)),.op 77 (pg 85 81 true (.Za 2)),
 .op 78 (pg 86 81 true (.Zu 7 85 (.k (.int .i64 3)))),.op 79 (rg 87 81 true (.load (some 7) 86)),.op 75 (wg 83 81 true (.call (.k (.fn 301 [] [])) [(.k (.int .i64 255))])),.re
 79,.op 76 (wg 84 81 true (.call (.k (.fn 301 [] [])) [(.k (.int .i64 16))])),.re 79,.op 74 (pg 82 81 true (.Za 1)),.op 80 (ng 88 81 true (.Qe 451 3 [(.int .i64 0),(.bool
 false),(.int .i64 0),(.str []),(.int .i64 0),(.int .i64 0),(.int .i64 0),(.int .i64 0),(.bool false),(.int .i64 0),(.str []),(.int .i64 0),(.int .i64 0),(.int .i64 0),(.int
 .i64 0),(.bool false),(.int .i64 0),(.str []),(.int .i64 0),(.int .i64 0),(.int .i64 0)] [(0,7,83),(7,7,84),(14,7,87)])),.op 81 (wg 89 81 true (.call (.k (.fn 313 []
 [])) [82,(.k (.str [99,118,114,115])),(.k (.str [70,70])),88])),.op 82 (p 90 (.pick 81 89 (.k (.bool false)))),.op 83 (p 91 (.Za 90)),.op 85 (pg 93 91 true (.Za 2)),.op
 86 (pg 94 91 true (.Zu 7 93 (.k (.int .i64 4)))),.op 87 (rg 95 91 true (.load (some 7) 94)),.op 84 (pg 92 91 true (.Za 1)),.op 88 (ng 96 91 true (.Qe 451 1 zOb [(0,7,
 95)])),.op 89 (wg 97 91 true (.call (.k (.fn 314 [] [])) [92,(.k (.str [99,118,105])),(.k (.int .i64 22)),96])),.op 90 (p 98 (.pick 91 97 (.k (.bool false)))),.op 91 (p 99 (.Za
 98)),.op 93 (pg 101 99 true (.Za 2)),.op 94 (pg 102 99 true (.Zu 7 101 (.k (.int .i64 0)))),.op 95 (rg 103 99 true (.load (some 7) 102)),.op 96 (wg 104 99 true (.call (.k (.fn
 301 [] [])) [(.k (.int .i64 1))])),.re 95,.op 92 (pg 100 99 true (.Za 1)),.op 97 (ng 105 99 true (.Qe 451 2 [(.int .i64 0),(.bool false),(.int .i64 0),(.str []),(.int .i64
 0),(.int .i64 0),(.int .i64 0),(.int .i64 0),(.bool false),(.int .i64 0),(.str []),(.int .i64 0),(.int .i64 0),(.int .i64 0)] [(0,7,103),(7,7,104)])),.op 98 (wg 106 99
 true (.call (.k (.fn 314 [] [])) [100,(.k (.str [108,116])),(.k (.int .i64 22)),105])),.op 99 (p 107 (.pick 99 106 (.k (.bool false)))),.op 100 (p 0 (.Za 107))]) .ret)))⟩
def Qz:Qa:=⟨1,[.cell 2 (some 7)],(.seq (.Ze [n 2 (.alloc 451 true zOb)]) (.seq (.Ze [p 3 (.Za 0),p 4 (.build zOb [(0,1,(.k (.int .i64 3))),(2,1,3)]),w0 (.store
 7 2 4)]) .ret))⟩
def Xs:Qa:=⟨1,[.cell 2 (some 7)],(.seq (.Ze [n 2 (.alloc 451 true zOb)]) (.seq (.Ze [p 3 (.Za 0),w 4 (.call (.k (.fn 325 [] [])) [3]),w0 (.store 7 2 4)]) .ret))⟩
def Kb:Qa:=⟨3,[.cell 6 (some 7),.t 7],(.seq (.Ze [n 6 (.alloc 451 true zOb),p 7 (.Za (.k (.bool false)))]) (.seq (.Ze [p 11 (.Za 2),p 12 (.Za 0),p 13 (.build
 Qi [(0,1,11),(2,1,12)]),p 14 (.Za 1),w 15 (.call (.k (.fn 308 [] [])) [13,14]),p 10 (.Za 15),p 16 (.Zq 0 10),p 17 (.Zq 1 10),n 8 (.alloc 457 true Qi),w0 (.store
 67 8 16),p 9 (.Za 17)]) (.seq (.Zd [6,8,9]) (.seq (.seq (.Ze [p 18 (.Za 9),p 19 (.bin .neq 18 (.k (.int .i64 0))),p 20 (.Za 19),pg 21 20 false (.Zi 0 8),rg 22 20 false
 (.load none 21),pg 23 20 false (.lenOf false 22),pg 24 20 false (.bin .neq 23 (.k (.int .i64 1))),p 25 (.pick 20 (.k (.bool true)) 24)]) (.seq (.Zd [6,8,25]) (.cond 25 (.seq
 (.Ze [p 26 (.build zOb []),w0 (.store 7 6 26),p 7 (.Za (.k (.bool false)))]) .ret) .skip))) (.seq (.Zd [6,8]) (.seq (.Ze [p 27 (.Zi 0 8),r 28 (.load none 27),p 29 (.Zu
 7 28 (.k (.int .i64 0))),r 30 (.load (some 7) 29),w0 (.store 7 6 30),p 7 (.Za (.k (.bool true)))]) .ret))))))⟩
def W9:Qa:=⟨2,[.t 4],(.seq (.Ze [n 3 (.box 451 true 1),p 4 (.Za (.k (.bool false)))]) (.seq (.seq (.Ze [r 6 (.load (some 7) 3),w 7 (.call (.k (.fn 326 [] [])) [6]),
 p 8 (.bin .neq 7 (.k (.int .i64 0)))]) (.cond 8 (.seq (.Ze [p 4 (.Za (.k (.bool false)))]) .ret) .skip)) (.seq (.Ze [p 9 (.Zi 0 3),r 10 (.load none 9),w 11 (.call (.k (.fn 327
 [] [])) [10]),p 5 (.Za 11)]) (.seq (.seq (.Ze [p 12 (.Za 5),p 13 (.bin .eql 12 (.k (.int .i64 0)))]) (.cond 13 (.seq (.Ze [p 4 (.Za (.k (.bool true)))]) .ret) .skip)) (.seq (.seq
 (.Ze [p 14 (.Zi 4 3),r 15 (.load none 14),p 16 (.Za 0),p 17 (.lenOf false 16),p 18 (.bin .geq 15 17),p 19 (.Za 18),pg 20 19 false (.Za 0),pg 21 19 false (.Zi 4 3),
 rg 22 19 false (.load none 21),pg 23 19 false (.Zu 7 20 22),pg 24 19 false (.Zi 0 23),rg 25 19 false (.load none 24),pg 26 19 false (.Za 5),pg 27 19 false (.bin .neq 25
 26),p 28 (.pick 19 (.k (.bool true)) 27)]) (.seq (.Zd [0,3,28]) (.cond 28 (.seq (.Ze [p 4 (.Za (.k (.bool false)))]) .ret) .skip))) (.seq (.Zd [0,3]) (.seq (.Kv [.op 0 (p
 29 (.Zi 0 3)),.op 1 (r 30 (.load none 29)),.op 2 (p 31 (.bin .eql 30 (.k (.int .i64 9)))),.op 3 (p 32 (.Za 31)),.op 4 (pg 33 32 false (.Zi 0 3)),.op 5 (rg 34 32 false (.load
 none 33)),.op 6 (pg 35 32 false (.bin .eql 34 (.k (.int .i64 11)))),.op 7 (p 36 (.pick 32 (.k (.bool true)) 35)),.op 8 (p 37 (.Za 36)),.op 9 (pg 38 37 false (.Zi 5 3)),.op
 10 (rg 39 37 false (.load none 38)),.op 11 (pg 40 37 false (.Zi 6 3)),.op 12 (rg 41 37 false (.load none 40)),.op 15 (pg 44 37 false (.Zi 4 3)),.op 16 (rg 45 37 false (.load
 none 44)),.op 14 (pg 43 37 false (.Za 0)),.op 17 (pg 46 37 false (.Zu 7 43 45)),.op 18 (rg 47 37 false (.load (some 7) 46)),.op 19 (wg 48 37 false (.call (.k (.fn 328 [] []))
 [47])),.re 10,.re 12,.op 13 (pg 42 37 false (.bin .add 39 41)),.op 20 (pg 49 37 false (.bin .leq 42 48)),.op 21 (p 50 (.pick 37 (.k (.bool true)) 49)),.op 22 (p 4 (.Za 50))])
 .ret)))))))⟩
def Wb:Qa:=⟨1,[.t 2,.t 3],(.seq (.Ze [n 1 (.box 451 true 0),p 2 (.Za (.k (.str []))),p 3 (.Za (.k (.int .i64 0)))]) (.seq (.seq (.Ze [r 5 (.load (some 7)
 1),w 6 (.call (.k (.fn 326 [] [])) [5]),p 4 (.Za 6)]) (.seq (.Ze [p 7 (.Za 4),p 8 (.bin .neq 7 (.k (.int .i64 0)))]) (.cond 8 (.seq (.Ze [p 9 (.Za 4),p 2 (.Za (.k (.str []))),
 p 3 (.Za 9)]) .ret) .skip))) (.seq (.Zd [1]) (.seq (.Kv [.op 1 (p 11 (.Zi 0 1)),.op 2 (r 12 (.load none 11)),.op 0 (w 10 (.call (.k (.fn 329 [] [])) [])),.re 2,.op 3 (p
 13 (.Zhv 13 6 (some 6) 10 12)),.op 4 (p 14 (.field 0 none 13)),.op 5 (p 2 (.Za 14)),.op 6 (p 3 (.Za (.k (.int .i64 0))))]) .ret))))⟩
def Yy:Zv:=(.seq (.Zd [4,5,8,9,10]) (.seq (.Ze [p 11 (.bin .lss 10 9)]) (.seq (.cond 11 .skip (.exit 0)) (.seq (.block 1 (.seq (.Ze [p 12 (.Za 10),
 p 13 (.Zu 1 8 10),r 14 (.load none 13),p 6 (.Za 12),p 7 (.Za 14)]) (.seq (.Ze [p 15 (.Za 4),p 16 (.Za 7),p 17 (.build zCe [(0,1,(.k (.int .i64 1))),(1,1,16)]),n
 18 (.Qe 486 1 zCe [(0,7,17)]),w 19 (.append 486 7 112 zCe 15 18),p 4 (.Za 19)]) (.Ze [p 20 (.Za 5),p 21 (.Za 6),p 22 (.Za 7),p 23 (.lenOf true 22),p 24 (.build zOb
 [(0,1,(.k (.int .i64 6))),(4,1,21),(6,1,23)]),n 25 (.Qe 451 1 zOb [(0,7,24)]),w 26 (.append 451 7 64 zOb 20 25),p 5 (.Za 26)])))) (.seq (.Zd [4,5,8,9,10]) (.Ze
 [p 27 (.bin .add 10 (.k (.int .i64 1))),p 10 (.Za 27)]))))))
def Y7:Qa:=⟨1,[.t 2,.t 3],(.seq (.Ze [p 2 (.Za (.k .Zc)),p 3 (.Za (.k .Zc))]) (.seq (.Ze [p 4 (.Za (.k .Zc))]) (.seq (.Ze [p 5 (.Za
 (.k .Zc))]) (.seq (.seq (.Ze [p 8 (.Za 0),p 9 (.lenOf false 8),p 10 (.Za (.k (.int .i64 0)))]) (.block 0 (.loop Yy))) (.seq (.Zd [4,5]) (.seq (.Ze
 [p 28 (.Za 4),p 29 (.Za 5),p 2 (.Za 28),p 3 (.Za 29)]) .ret))))))⟩
def Xt:Qa:=⟨1,[.cell 2 (some 7)],(.seq (.Ze [n 2 (.alloc 451 true zOb)]) (.seq (.Ze [p 3 (.Za 0),p 4 (.build zOb [(0,1,(.k (.int .i64 4))),(2,1,3)]),w0 (.store
 7 2 4)]) .ret))⟩
def Qv:Qa:=⟨2,[.cell 4 (some 67),.t 5],(.seq (.Ze [n 2 (.box 457 true 0),n 4 (.alloc 457 true Qi),p 5 (.Za (.k (.int .i64 0)))]) (.seq (.Ze [r 14 (.load (some
 67) 2),p 15 (.build Qi [(0,67,14)]),n 6 (.alloc 493 true Qi),w0 (.store 67 6 15)]) (.seq (.Ze [n 16 (.mkMap),w0 (.Zbp .s 16 (.k (.str [108,116])) (.k (.fn 330 [] []))),
 w0 (.Zbp .s 16 (.k (.str [108,101])) (.k (.fn 331 [] []))),w0 (.Zbp .s 16 (.k (.str [103,116])) (.k (.fn 332 [] []))),w0 (.Zbp .s 16 (.k (.str [103,101])) (.k (.fn 333 [] []))),
 p 17 (.Za 16),p 7 (.Za 17)]) (.seq (.seq (.Ze [p 19 (.Za 7),p 20 (.Za 1),r 21 (.lookup .s .Jx true 19 20),p 18 (.Za 21),p 22 (.Zq 0 18),p 23 (.Zq 1 18),p 8 (.Za
 22),p 9 (.Za 23)]) (.seq (.Zd [1,2,4,6,8,9]) (.seq (.Ze [p 24 (.Za 9)]) (.cond 24 (.seq (.Ze [r 25 (.load (some 67) 6),p 26 (.Za 8),w 27 (.call (.k (.fn 334 [] [])) [25,
 26]),p 28 (.Zq 0 27),p 29 (.Zq 1 27),w0 (.store 67 4 28),p 5 (.Za 29)]) .ret) .skip)))) (.seq (.Zd [1,2,4,6]) (.seq (.Ze [n 30 (.mkMap),w0 (.Zbp .s 30 (.k (.str [97,
 110,100])) (.k (.fn 335 [] []))),w0 (.Zbp .s 30 (.k (.str [111,114])) (.k (.fn 336 [] []))),w0 (.Zbp .s 30 (.k (.str [120,111,114])) (.k (.fn 337 [] []))),p 31 (.Za 30),p
 10 (.Za 31)]) (.seq (.seq (.Ze [p 33 (.Za 10),p 34 (.Za 1),r 35 (.lookup .s .Jx true 33 34),p 32 (.Za 35),p 36 (.Zq 0 32),p 37 (.Zq 1 32),p 11 (.Za 36),p 12 (.Za
 37)]) (.seq (.Zd [1,2,4,6,11,12]) (.seq (.Ze [p 38 (.Za 12)]) (.cond 38 (.seq (.Ze [r 39 (.load (some 67) 6),p 40 (.Za 11),w 41 (.call (.k (.fn 338 [] [])) [39,40]),p
 42 (.Zq 0 41),p 43 (.Zq 1 41),w0 (.store 67 4 42),p 5 (.Za 43)]) .ret) .skip)))) (.seq (.Zd [1,2,4,6]) (.seq (.Ze [r 44 (.load (some 67) 6),p 45 (.Pz 339 [44] []),
 p 13 (.Za 45)]) (.seq (.seq (.Ze [p 46 (.Za 1)]) (.block 0 (.seq (.seq (.Ze [p 48 (.bin .eql 46 (.k (.str [101,113]))),p 47 (.Za 48)]) (.cond 47 .skip (.Ze [p 49 (.bin .eql
 46 (.k (.str [110,101]))),p 47 (.Za 49)]))) (.cond 47 (.seq (.Ze [r 50 (.load (some 67) 6),p 51 (.Za 1),p 52 (.bin .eql 51 (.k (.str [101,113]))),w 53 (.call (.k (.fn 340 []
 [])) [50,52]),p 54 (.Zq 0 53),p 55 (.Zq 1 53),w0 (.store 67 4 54),p 5 (.Za 55)]) .ret) (.seq (.Ze [p 57 (.bin .eql 46 (.k (.str [110,111,116]))),p 56 (.Za 57)]) (.cond
 56 (.seq (.Ze [r 58 (.load (some 67) 6),w 59 (.call (.k (.fn 341 [] [])) [58]),p 60 (.Zq 0 59),p 61 (.Zq 1 59),w0 (.store 67 4 60),p 5 (.Za 61)]) .ret) (.seq (.Ze [p 63
 (.bin .eql 46 (.k (.str [98,105,116,115,104,105,102,116]))),p 62 (.Za 63)]) (.cond 62 (.seq (.Ze [r 64 (.load (some 67) 6),w 65 (.call (.k (.fn 342 [] [])) [64]),p 66 (.Zq
 0 65),p 67 (.Zq 1 65),w0 (.store 67 4 66),p 5 (.Za 67)]) .ret) (.seq (.seq (.Ze [p 69 (.bin .eql 46 (.k (.str [116,114,117,101]))),p 68 (.Za 69)]) (.cond 68 .skip (.Ze
 [p 70 (.bin .eql 46 (.k (.str [102,97,108,115,101]))),p 68 (.Za 70)]))) (.cond 68 (.seq (.Kv [.op 0 (r 71 (.load (some 67) 2)),.op 1 (p 72 (.Za 1)),.op 2 (p 73 (.bin .eql
 72 (.k (.str [116,114,117,101])))),.op 3 (w 74 (.call (.k (.fn 343 [] [])) [73])),.re 0,.op 4 (n 75 (.Qe 451 1 zOb [(0,7,74)])),.op 5 (w 76 (.call (.k (.fn 344 [] []))
 [71,75])),.op 6 (p 77 (.Zq 0 76)),.op 7 (p 78 (.Zq 1 76)),.op 8 (w0 (.store 67 4 77)),.op 9 (p 5 (.Za 78))]) .ret) (.seq (.Ze [p 80 (.bin .eql 46 (.k (.str [110,117,108,
 108]))),p 79 (.Za 80)]) (.cond 79 (.seq (.Ze [r 81 (.load (some 67) 2),p 82 (.build zOb []),n 83 (.Qe 451 1 zOb [(0,7,82)]),w 84 (.call (.k (.fn 344 [] [])) [81,83]),
 p 85 (.Zq 0 84),p 86 (.Zq 1 84),w0 (.store 67 4 85),p 5 (.Za 86)]) .ret) (.seq (.Ze [p 88 (.bin .eql 46 (.k (.str [116,121,112,101]))),p 87 (.Za 88)]) (.cond 87 (.seq
 (.Ze [p 89 (.Za 13),w 90 (.call 89 [(.k (.int .i64 0)),(.k (.fn 345 [] []))]),p 91 (.Zq 0 90),p 92 (.Zq 1 90),w0 (.store 67 4 91),p 5 (.Za 92)]) .ret) (.seq (.Ze [p 94
 (.bin .eql 46 (.k (.str [120,99,104,101,99,107]))),p 93 (.Za 94)]) (.cond 93 (.seq (.Ze [p 95 (.Za 13),w 96 (.call 95 [(.k (.int .i64 0)),(.k (.fn 346 [] []))]),p 97 (.Zq
 0 96),p 98 (.Zq 1 96),w0 (.store 67 4 97),p 5 (.Za 98)]) .ret) (.seq (.seq (.Ze [p 100 (.bin .eql 46 (.k (.str [99,118,120]))),p 99 (.Za 100)]) (.cond 99 .skip (.Ze [p 101
 (.bin .eql 46 (.k (.str [99,118,108,105,116]))),p 99 (.Za 101)]))) (.cond 99 (.seq (.Ze [p 102 (.Za 13),p 103 (.Za 1),p 104 (.bin .eql 103 (.k (.str [99,118,120]))),w
 105 (.call (.k (.fn 347 [] [])) [104]),w 106 (.call 102 [(.k (.int .i64 0)),105]),p 107 (.Zq 0 106),p 108 (.Zq 1 106),w0 (.store 67 4 107),p 5 (.Za 108)]) .ret) (.seq (.Ze
 [p 110 (.bin .eql 46 (.k (.str [99,118,110]))),p 109 (.Za 110)]) (.cond 109 (.seq (.Ze [p 111 (.Za 13),r 112 (.load (some 67) 6),p 113 (.Pz 348 [112] []),w 114 (.call 111
 [(.k (.int .i64 2)),113]),p 115 (.Zq 0 114),p 116 (.Zq 1 114),w0 (.store 67 4 115),p 5 (.Za 116)]) .ret) (.seq (.Ze [p 118 (.bin .eql 46 (.k (.str [99,118,105]))),p 117
 (.Za 118)]) (.cond 117 (.seq (.Ze [p 119 (.Za 13),r 120 (.load (some 67) 6),w 121 (.call (.k (.fn 349 [] [])) [120,(.k (.fn 350 [] []))]),w 122 (.call 119 [(.k (.int .i64 5)),
 121]),p 123 (.Zq 0 122),p 124 (.Zq 1 122),w0 (.store 67 4 123),p 5 (.Za 124)]) .ret) (.seq (.Ze [p 126 (.bin .eql 46 (.k (.str [99,118,114]))),p 125 (.Za 126)]) (.cond
 125 (.seq (.Ze [p 127 (.Za 13),r 128 (.load (some 67) 6),w 129 (.call (.k (.fn 349 [] [])) [128,(.k (.fn 351 [] []))]),w 130 (.call 127 [(.k (.int .i64 5)),129]),p 131 (.Zq
 0 130),p 132 (.Zq 1 130),w0 (.store 67 4 131),p 5 (.Za 132)]) .ret) (.seq (.Ze [p 134 (.bin .eql 46 (.k (.str [99,118,115]))),p 133 (.Za 134)]) (.cond 133 (.seq (.Ze [r
 135 (.load (some 67) 6),w 136 (.call (.k (.fn 352 [] [])) [135]),p 137 (.Zq 0 136),p 138 (.Zq 1 136),w0 (.store 67 4 137),p 5 (.Za 138)]) .ret) (.seq (.Ze [p 140 (.bin .eql
 46 (.k (.str [99,118,114,115]))),p 139 (.Za 140)]) (.cond 139 (.seq (.Ze [r 141 (.load (some 67) 6),w 142 (.call (.k (.fn 353 [] [])) [141]),p 143 (.Zq 0 142),p 144 (.Zq
 1 142),w0 (.store 67 4 143),p 5 (.Za 144)]) .ret) .skip)))))))))))))))))))))))))))) (.seq (.Zd [2,4]) (.seq (.Ze [r 145 (.load (some 67) 2),w0 (.store 67 4 145),p 5 (.Za (.k
 (.int .i64 24)))]) .ret))))))))))))⟩
def Kt:Zv:=(.seq (.Zd [1,3,4]) (.seq (.seq (.Ze [p 7 (.Za 4),p 8 (.Zi 0 1),r 9 (.load none 8),p 10 (.lenOf false 9),p 11 (.bin .lss 7 10),
 p 12 (.Za 11),pg 13 12 true (.Za 4),pg 14 12 true (.bin .lss 13 (.k (.int .i64 10))),p 15 (.pick 12 14 (.k (.bool false)))]) (.cond 15 .skip (.exit 0))) (.seq (.Zd [1,3,4])
 (.seq (.block 1 (.Ze [p 18 (.Za 3),p 19 (.Zi 0 1),r 20 (.load none 19),p 21 (.Za 4),p 22 (.Zu 5 20 21),r 23 (.load (some 5) 22),p 24 (.Za 3),w 25 (.call (.k (.fn 355
 [] [])) [23,24]),n 26 (.Qe 486 1 zCe [(0,7,25)]),w 27 (.append 486 7 112 zCe 18 26),p 3 (.Za 27)])) (.seq (.Zd [1,3,4]) (.Ze [p 16 (.Za 4),p 17 (.bin .add 16 (.k
 (.int .i64 1))),p 4 (.Za 17)]))))))
def Ks:Qa:=⟨1,[.t 2],(.seq (.Ze [n 1 (.box 430 true 0),p 2 (.Za (.k .Zc))]) (.seq (.Ze [n 5 (.Qe 9 2 [(.str []),(.str [])] [(0,1,(.k (.str
 [97,100,100]))),(1,1,(.k (.str [112,111,112])))]),w 6 (.call (.k (.fn 354 [] [])) [5]),p 3 (.Za 6)]) (.seq (.seq (.Ze [p 4 (.Za (.k (.int .i64 0)))]) (.block 0 (.loop Kt)))
 (.seq (.Zd [3]) (.seq (.Ze [p 28 (.Za 3),p 2 (.Za 28)]) .ret)))))⟩
def Zr:Qa:=⟨2,[.cell 4 (some 7)],(.seq (.Ze [n 2 (.box 465 true 0),n 4 (.alloc 451 true zOb)]) (.seq (.Ze [p 6 (.Zi 3 2),r 7 (.load none 6),p 8 (.conv
 .i64 7),p 5 (.Za 8)]) (.seq (.seq (.Ze [p 9 (.Zi 0 2),r 10 (.load none 9),p 11 (.bin .rem 10 (.k (.int .u8 16)))]) (.block 0 (.seq (.Ze [p 13 (.bin .eql 11 (.k (.int .u8 0))),
 p 12 (.Za 13)]) (.cond 12 (.seq (.Ze [p 14 (.build zOb [(0,1,(.k (.int .i64 0)))]),w0 (.store 7 4 14)]) .ret) (.seq (.Ze [p 16 (.bin .eql 11 (.k (.int .u8 1))),p 15 (.Za 16)])
 (.cond 15 (.seq (.Ze [p 17 (.build zOb [(0,1,(.k (.int .i64 1)))]),w0 (.store 7 4 17)]) .ret) (.seq (.Ze [p 19 (.bin .eql 11 (.k (.int .u8 2))),p 18 (.Za 19)]) (.cond 18 (.seq
 (.Ze [p 20 (.Zi 1 2),r 21 (.load none 20),p 22 (.bin .rem 21 (.k (.int .u8 2))),p 23 (.conv .i64 22),p 24 (.build zOb [(0,1,(.k (.int .i64 2))),(2,1,23)]),w0 (.store 7
 4 24)]) .ret) (.seq (.seq (.Ze [p 26 (.bin .eql 11 (.k (.int .u8 3))),p 25 (.Za 26)]) (.cond 25 .skip (.Ze [p 27 (.bin .eql 11 (.k (.int .u8 4))),p 25 (.Za 27)]))) (.cond 25 (.seq
 (.Ze [p 28 (.Za 5),p 29 (.bin .rem 28 (.k (.int .i64 10))),p 30 (.build zOb [(0,1,(.k (.int .i64 3))),(2,1,29)]),w0 (.store 7 4 30)]) .ret) (.seq (.Ze [p 32 (.bin .eql 11
 (.k (.int .u8 5))),p 31 (.Za 32)]) (.cond 31 (.seq (.Ze [p 33 (.Za 5),p 34 (.build zOb [(0,1,(.k (.int .i64 3))),(2,1,33)]),w0 (.store 7 4 34)]) .ret) (.seq (.Ze [p 36 (.bin
 .eql 11 (.k (.int .u8 6))),p 35 (.Za 36)]) (.cond 35 (.seq (.Ze [p 37 (.Za 5),p 38 (.bin .rem 37 (.k (.int .i64 1048576))),p 39 (.build zOb [(0,1,(.k (.int .i64 4))),(2,1,
 38)]),w0 (.store 7 4 39)]) .ret) (.seq (.Ze [p 41 (.bin .eql 11 (.k (.int .u8 7))),p 40 (.Za 41)]) (.cond 40 (.seq (.Ze [p 42 (.Za 5),p 43 (.build zOb [(0,1,(.k (.int .i64
 4))),(2,1,42)]),w0 (.store 7 4 43)]) .ret) (.seq (.seq (.Ze [p 45 (.bin .eql 11 (.k (.int .u8 8))),p 44 (.Za 45)]) (.cond 44 .skip (.Ze [p 46 (.bin .eql 11 (.k (.int .u8 9))),
 p 44 (.Za 46)]))) (.cond 44 (.seq (.Kv [.op 0 (p 47 (.Zi 0 2)),.op 1 (r 48 (.load none 47)),.op 4 (p 51 (.Zi 1 2)),.op 5 (r 52 (.load none 51)),.op 6 (p 53 (.conv .i64
 52)),.op 7 (p 54 (.bin .rem 53 (.k (.int .i64 8)))),.op 8 (r 55 (.Sa 8 8 1 54)),.op 9 (r 56 (.load none 55)),.op 2 (p 49 (.bin .rem 48 (.k (.int .u8 16)))),.op 3 (p 50 (.bin
 .eql 49 (.k (.int .u8 9)))),.op 10 (p 57 (.build zOb [(0,1,(.k (.int .i64 5))),(1,1,50),(3,1,56)])),.op 11 (w0 (.store 7 4 57))]) .ret) (.seq (.Ze [p 59 (.bin .eql 11 (.k
 (.int .u8 10))),p 58 (.Za 59)]) (.cond 58 (.seq (.Ze [p 60 (.Za 1),r 61 (.load (some 5) 2),w 62 (.call (.k (.fn 356 [] [])) [60,(.k (.int .i64 6)),(.k (.int .i64 1)),61]),
 w0 (.store 7 4 62)]) .ret) (.seq (.Ze [p 64 (.bin .eql 11 (.k (.int .u8 11))),p 63 (.Za 64)]) (.cond 63 (.seq (.Ze [p 65 (.Za 1),r 66 (.load (some 5) 2),w 67 (.call (.k (.fn
 356 [] [])) [65,(.k (.int .i64 7)),(.k (.int .i64 2)),66]),w0 (.store 7 4 67)]) .ret) (.seq (.Ze [p 69 (.bin .eql 11 (.k (.int .u8 12))),p 68 (.Za 69)]) (.cond 68 (.seq (.Ze
 [p 70 (.Za 1),r 71 (.load (some 5) 2),w 72 (.call (.k (.fn 356 [] [])) [70,(.k (.int .i64 8)),(.k (.int .i64 2)),71]),w0 (.store 7 4 72)]) .ret) (.seq (.Ze [p 74 (.bin .eql
 11 (.k (.int .u8 13))),p 73 (.Za 74)]) (.cond 73 (.seq (.Ze [p 75 (.Za 1),r 76 (.load (some 5) 2),w 77 (.call (.k (.fn 356 [] [])) [75,(.k (.int .i64 9)),(.k (.int .i64 3)),
 76]),w0 (.store 7 4 77)]) .ret) (.seq (.Ze [p 79 (.bin .eql 11 (.k (.int .u8 14))),p 78 (.Za 79)]) (.cond 78 (.seq (.Ze [p 80 (.build zOb [(0,1,(.k (.int .i64 10))),(1,1,(.k
 (.bool true))),(3,1,(.k (.str [97,100,100])))]),w0 (.store 7 4 80)]) .ret) .skip)))))))))))))))))))))))))))) (.seq (.Zd [1,2,4]) (.seq (.Ze [p 81 (.Za 1),r 82 (.load (some
 5) 2),w 83 (.call (.k (.fn 356 [] [])) [81,(.k (.int .i64 11)),(.k (.int .i64 4)),82]),w0 (.store 7 4 83)]) .ret)))))⟩
def Q7:Qa:=⟨1,[.t 2],(.seq (.Ze [n 1 (.box 451 true 0),p 2 (.Za (.k (.bool false)))]) (.seq (.Ze [p 3 (.Zi 0 1),r 4 (.load none 3),p 5 (.bin .eql
 4 (.k (.int .i64 3))),p 6 (.Za 5),pg 7 6 false (.Zi 0 1),rg 8 6 false (.load none 7),pg 9 6 false (.bin .eql 8 (.k (.int .i64 4))),p 10 (.pick 6 (.k (.bool true)) 9),p 2 (.Za
 10)]) .ret))⟩
def Ja:Qa:=⟨4,[.t 8],(.seq (.Ze [n 6 (.box 451 true 2),p 8 (.Za (.k (.bool false)))]) (.seq (.Ze [p 12 (.Za 3),p 13 (.Za 0),p 14 (.build Qi [(0,1,12),
 (2,1,13)]),p 15 (.Za 1),w 16 (.call (.k (.fn 308 [] [])) [14,15]),p 11 (.Za 16),p 17 (.Zq 0 11),p 18 (.Zq 1 11),n 9 (.alloc 457 true Qi),w0 (.store 67 9 17),p 10
 (.Za 18)]) (.seq (.Zd [6,9,10]) (.seq (.Kv [.op 0 (p 19 (.Za 10)),.op 1 (p 20 (.bin .eql 19 (.k (.int .i64 0)))),.op 2 (p 21 (.Za 20)),.op 3 (pg 22 21 true (.Zi 0 9)),
 .op 4 (rg 23 21 true (.load none 22)),.op 5 (pg 24 21 true (.lenOf false 23)),.op 6 (pg 25 21 true (.bin .eql 24 (.k (.int .i64 1)))),.op 7 (p 26 (.pick 21 25 (.k (.bool false)))),
 .op 8 (p 27 (.Za 26)),.op 9 (pg 28 27 true (.Zi 0 9)),.op 10 (rg 29 27 true (.load none 28)),.op 11 (pg 30 27 true (.Zu 7 29 (.k (.int .i64 0)))),.op 12 (rg 31 27 true (.load
 (some 7) 30)),.op 13 (rg 32 27 true (.load (some 7) 6)),.op 14 (pg 33 27 true (.eqA false [(.i .i64),.b,(.i .i64),.s,(.i .i64),(.i .i64),(.i .i64)] 31 32)),.op 15 (p 34 (.pick
 27 33 (.k (.bool false)))),.op 16 (p 8 (.Za 34))]) .ret))))⟩
def Yi:Qa:=⟨4,[.t 8],(.seq (.Ze [p 8 (.Za (.k (.bool false)))]) (.seq (.Ze [p 14 (.Za 3),p 15 (.Za 0),p 16 (.build Qi [(0,1,14),(2,1,15)]),p 17
 (.Za 1),w 18 (.call (.k (.fn 308 [] [])) [16,17]),p 13 (.Za 18),p 19 (.Zq 0 13),p 20 (.Zq 1 13),n 9 (.alloc 457 true Qi),w0 (.store 67 9 19),p 10 (.Za 20)]) (.seq (.Zd
 [2,3,9,10]) (.seq (.seq (.Kv [.op 0 (p 21 (.Za 10)),.op 1 (p 22 (.bin .neq 21 (.k (.int .i64 0)))),.op 2 (p 23 (.Za 22)),.op 3 (pg 24 23 false (.Zi 0 9)),.op 4 (rg 25
 23 false (.load none 24)),.op 5 (pg 26 23 false (.lenOf false 25)),.op 6 (pg 27 23 false (.bin .neq 26 (.k (.int .i64 1)))),.op 7 (p 28 (.pick 23 (.k (.bool true)) 27)),.op 8 (p
 29 (.Za 28)),.op 9 (pg 30 29 false (.Zi 0 9)),.op 10 (rg 31 29 false (.load none 30)),.op 11 (pg 32 29 false (.Zu 7 31 (.k (.int .i64 0)))),.op 12 (pg 33 29 false (.Zi
 0 32)),.op 13 (rg 34 29 false (.load none 33)),.op 14 (pg 35 29 false (.bin .neq 34 (.k (.int .i64 6)))),.op 15 (p 36 (.pick 29 (.k (.bool true)) 35)),.op 16 (p 37 (.Za 36)),.op
 17 (pg 38 37 false (.Zi 0 9)),.op 18 (rg 39 37 false (.load none 38)),.op 19 (pg 40 37 false (.Zu 7 39 (.k (.int .i64 0)))),.op 20 (pg 41 37 false (.Zi 4 40)),.op 21 (rg
 42 37 false (.load none 41)),.op 22 (pg 43 37 false (.Za 3)),.op 23 (pg 44 37 false (.Za 3)),.op 24 (pg 45 37 false (.lenOf false 44)),.op 25 (pg 46 37 false (.bin .sub 45 (.k
 (.int .i64 1)))),.op 26 (pg 47 37 false (.Zu 7 43 46)),.op 27 (pg 48 37 false (.Zi 4 47)),.op 28 (rg 49 37 false (.load none 48)),.op 29 (pg 50 37 false (.bin .neq 42 49)),
 .op 30 (p 51 (.pick 37 (.k (.bool true)) 50))]) (.seq (.Zd [2,9,51]) (.cond 51 (.seq (.Ze [p 8 (.Za (.k (.bool false)))]) .ret) .skip))) (.seq (.Zd [2,9]) (.seq (.Kv [.op
 0 (p 53 (.Zi 2 9)),.op 1 (r 54 (.load none 53)),.op 2 (p 55 (.Zi 0 9)),.op 3 (r 56 (.load none 55)),.op 4 (p 57 (.Zu 7 56 (.k (.int .i64 0)))),.op 5 (r 58 (.load (some
 7) 57)),.op 6 (w 59 (.call (.k (.fn 357 [] [])) [54,58])),.op 7 (p 52 (.Za 59)),.op 8 (p 60 (.Zq 0 52)),.op 9 (p 61 (.Zq 1 52)),.op 10 (p 11 (.Za 60)),.op 11 (p 12 (.Za
 61))]) (.seq (.Zd [2,11,12]) (.seq (.Ze [p 62 (.Za 12),p 63 (.bin .eql 62 (.k (.int .i64 0))),p 64 (.Za 63),pg 65 64 true (.Za 11),pg 66 64 true (.Za 2),pg 67 64 true
 (.bin .eql 65 66),p 68 (.pick 64 67 (.k (.bool false))),p 8 (.Za 68)]) .ret))))))))⟩
def Y6:Qa:=⟨4,[.t 8],(.seq (.Ze [p 8 (.Za (.k (.bool false)))]) (.seq (.Ze [p 12 (.Za 3),p 13 (.Za 0),p 14 (.build Qi [(0,1,12),(2,1,13)]),p 15
 (.Za 1),w 16 (.call (.k (.fn 308 [] [])) [14,15]),p 11 (.Za 16),p 17 (.Zq 0 11),p 18 (.Zq 1 11),n 9 (.alloc 457 true Qi),w0 (.store 67 9 17),p 10 (.Za 18)]) (.seq (.Zd
 [0,2,3,9,10]) (.seq (.Ze [p 19 (.Za 10),p 20 (.Za 2),p 21 (.bin .eql 19 20),p 22 (.Za 21),pg 23 22 true (.Zi 0 9),rg 24 22 true (.load none 23),pg 25 22 true (.Za
 3),wg 26 22 true (.call (.k (.fn 358 [] [])) [24,25]),p 27 (.pick 22 26 (.k (.bool false))),p 28 (.Za 27),pg 29 28 true (.Zi 2 9),rg 30 28 true (.load none 29),pg 31 28 true
 (.Za 0),wg 32 28 true (.call (.k (.fn 359 [] [])) [30,31]),p 33 (.pick 28 32 (.k (.bool false))),p 8 (.Za 33)]) .ret))))⟩
def Xw:Qa:=⟨2,[.t 4],(.seq (.Ze [n 3 (.box 451 true 1),p 4 (.Za (.k (.str [])))]) (.seq (.seq (.Ze [p 8 (.Za 0),r 9 (.load (some 7) 3),w 10 (.call (.k (.fn 304
 [] [])) [8,9]),p 11 (.un .not 10)]) (.cond 11 (.seq (.Ze [p 4 (.Za (.k (.str [])))]) .ret) .skip)) (.seq (.Ze [p 5 (.Za (.k (.fn 362 [] [])))]) (.seq (.Ze [p 12 (.build [.Jx]
 [(0,1,(.k (.fn 363 [] [])))]),p 13 (.build [.Jx] [(0,1,(.k (.fn 364 [] [])))]),p 14 (.build [.Jx] [(0,1,(.k (.fn 365 [] [])))]),p 15 (.Za 5),p 16 (.build [.Jx] [(0,
 1,15)]),p 17 (.build [.Jx] [(0,1,(.k (.fn 366 [] [])))]),p 18 (.Za 5),p 19 (.build [.Jx] [(0,1,18)]),p 20 (.build [.Jx] []),p 21 (.build (List.replicate 14 .Jx)
 [(2,1,12),(3,1,13),(4,1,14),(5,1,16),(6,1,17),(10,1,19),(13,1,20)]),n 6 (.alloc 526 true (List.replicate 14 .Jx)),w0 (.store 14 6 21)]) (.seq (.Zd [0,3,
 6]) (.seq (.seq (.Ze [p 22 (.Zi 0 3),r 23 (.load none 22),p 24 (.Nq 14 1 6 23),p 25 (.Zi 0 24),r 26 (.load none 25),p 7 (.Za 26)]) (.seq (.Ze [p 27 (.Za 7),p 28
 (.eqN true 3 27 (.k .Jx))]) (.cond 28 (.seq (.Ze [p 29 (.Za 7),p 30 (.Za 0),r 31 (.load (some 7) 3),w 32 (.call 29 [30,31]),p 4 (.Za 32)]) .ret) .skip))) (.seq (.Zd [])
 (.seq (.Ze [p 4 (.Za (.k (.str [45,45,110,111,115,116,114,105,110,103,118,97,108,45,45])))]) .ret))))))))⟩
def U6:Qa:=⟨1,[.cell 2 (some 7)],(.seq (.Ze [n 2 (.alloc 451 true zOb)]) (.seq (.seq (.Ze [p 3 (.Za 0)]) (.cond 3 (.seq (.Ze [p 4 (.build zOb [(0,1,(.k (.int
 .i64 2))),(2,1,(.k (.int .i64 1)))]),w0 (.store 7 2 4)]) .ret) .skip)) (.seq (.Ze [p 5 (.build zOb [(0,1,(.k (.int .i64 2)))]),w0 (.store 7 2 5)]) .ret)))⟩
def X4:Zv:=(.seq (.Zd [1,3,4,19,20]) (.seq (.Ze [p 21 (.bin .lss 20 (.k (.int .i64 3)))]) (.seq (.cond 21 .skip (.exit 0)) (.seq (.block 1 (.seq (.Ze [p
 22 (.Zhv 3 1 none 19 20),p 6 (.Za 22)]) (.seq (.Ze [p 23 (.Za 6),r 24 (.load (some 6) 3),r 25 (.load (some 7) 1),w 26 (.call 23 [24,25]),p 27 (.un .not 26)]) (.cond 27 (.seq
 (.Ze [p 4 (.Za (.k (.int .i64 200)))]) (.exit 0)) .skip)))) (.seq (.Zd [1,3,4,19,20]) (.Ze [p 28 (.bin .add 20 (.k (.int .i64 1))),p 20 (.Za 28)]))))))
def Qs:Qa:=⟨1,[.t 2],(.seq (.Ze [n 1 (.box 451 true 0),p 2 (.Za (.k (.int .i64 0)))]) (.scope (.seq (.seq (.Ze [p 7 (.Zi 0 1),r 8 (.load none 7),p 9 (.bin
 .lss 8 (.k (.int .i64 0))),p 10 (.Za 9),pg 11 10 false (.Zi 0 1),rg 12 10 false (.load none 11),pg 13 10 false (.bin .geq 12 (.k (.int .i64 13))),p 14 (.pick 10 (.k (.bool
 true)) 13)]) (.seq (.Zd [1,14]) (.cond 14 (.seq (.Ze [p 2 (.Za (.k (.int .i64 200)))]) .ret) .skip))) (.seq (.Zd [1]) (.seq (.Kv [.op 1 (p 16 (.Zi 0 1)),.op 2 (r 17 (.load
 none 16)),.op 0 (w 15 (.call (.k (.fn 329 [] [])) [])),.re 2,.op 3 (p 18 (.Zhv 13 6 (some 6) 15 17)),.op 4 (n 3 (.alloc 532 true zKd)),.op 5 (w0 (.store 6 3 18))]) (.seq (.Ze
 [p 4 (.Za (.k (.int .i64 0)))]) (.seq .skip (.seq (.seq (.Ze [p 19 (.build [.Jx,.Jx,.Jx] [(0,1,(.k (.fn 379 [] []))),(1,1,(.k (.fn 380 [] []))),(2,1,(.k (.fn 381
 [] [])))]),p 20 (.Za (.k (.int .i64 0)))]) (.block 0 (.loop X4))) (.seq (.Zd [4]) (.seq (.Ze [p 29 (.Za 4),p 2 (.Za 29)]) .ret))))))))))⟩
def Lb:Qa:=⟨1,[.t 2],(.seq (.Ze [p 2 (.Za (.k (.int .i64 0)))]) (.seq (.Ze [p 3 (.build (List.replicate 14 (.int .i64 0)) [(6,1,(.k (.int .i64 1))),(7,1,(.k
 (.int .i64 2))),(8,1,(.k (.int .i64 2))),(9,1,(.k (.int .i64 3))),(11,1,(.k (.int .i64 4))),(13,1,(.k (.int .i64 0)))]),p 4 (.Za 0),p 5 (.Zhv 14 1 none 3 4),p 2 (.Za
 5)]) .ret))⟩
def Xi:Qa:=⟨1,[.t 2],(.seq (.Ze [n 1 (.box 486 true 0),p 2 (.Za (.k (.int .i64 0)))]) (.seq (.seq (.Ze [p 3 (.Zi 0 1),r 4 (.load none 3),p 5 (.bin .eql 4 (.k
 (.int .i64 1)))]) (.cond 5 (.seq (.Ze [p 6 (.Zi 1 1),r 7 (.load none 6),p 8 (.lenOf true 7),p 2 (.Za 8)]) .ret) .skip)) (.seq (.Ze [p 9 (.Zi 2 1),r 10 (.load none 9),p
 11 (.lenOf false 10),p 2 (.Za 11)]) .ret)))⟩
def Wn:Qa:=⟨0,[.cell 0 (some 78)],(.seq (.Ze [n 0 (.alloc 533 true z533)]) (.seq (.Ze [p 1 (.build zKd [(0,1,(.k (.str [110,117,108,108,116,121,112,101])))]),
 p 2 (.build zKd [(0,1,(.k (.str [109,97,114,107,116,121,112,101])))]),p 3 (.build zKd [(0,1,(.k (.str [98,111,111,108,101,97,110,116,121,112,101]))),(2,1,(.k
 (.int .i64 1)))]),p 4 (.build zKd [(0,1,(.k (.str [105,110,116,101,103,101,114,116,121,112,101]))),(1,1,(.k (.int .i64 (-2147483648)))),(2,1,(.k (.int .i64 2147483647)))]),
 p 5 (.build zKd [(0,1,(.k (.str [114,101,97,108,116,121,112,101]))),(1,1,(.k (.int .i64 (-2147483648)))),(2,1,(.k (.int .i64 2147483648)))]),p 6 (.build zKd [(0,1,
 (.k (.str [110,97,109,101,116,121,112,101]))),(4,1,(.k (.int .i64 100)))]),p 7 (.build zKd [(0,1,(.k (.str [115,116,114,105,110,103,116,121,112,101]))),(5,1,
 (.k (.int .i64 1)))]),p 8 (.build zKd [(0,1,(.k (.str [97,114,114,97,121,116,121,112,101]))),(5,1,(.k (.int .i64 2)))]),p 9 (.build zKd [(0,1,(.k (.str [112,97,99,
 107,101,100,97,114,114,97,121,116,121,112,101]))),(5,1,(.k (.int .i64 2)))]),p 10 (.build zKd [(0,1,(.k (.str [100,105,99,116,116,121,112,101]))),(5,1,(.k
 (.int .i64 3)))]),p 11 (.build zKd [(0,1,(.k (.str [111,112,101,114,97,116,111,114,116,121,112,101]))),(3,1,(.k (.int .i64 1))),(4,1,(.k (.int .i64 100)))]),p 12
 (.build zKd [(0,1,(.k (.str [102,105,108,101,116,121,112,101]))),(5,1,(.k (.int .i64 3)))]),p 13 (.build zKd [(0,1,(.k (.str [115,97,118,101,116,121,112,101]))),
 (1,1,(.k (.int .i64 1))),(2,1,(.k (.int .i64 9223372036854775807)))]),p 14 (.build z533 [(0,6,1),(6,6,2),(12,6,3),(18,6,4),(24,6,5),(30,6,6),(36,6,7),(42,
 6,8),(48,6,9),(54,6,10),(60,6,11),(66,6,12),(72,6,13)]),w0 (.store 78 0 14)]) .ret))⟩
def Hl:Qa:=⟨1,[.t 2],(.seq (.Ze [p 2 (.Za (.k (.bool false)))]) (.seq (.Ze [p 3 (.Za 0),p 4 (.bin .lss 3 (.k (.int .i64 0))),p 2 (.Za 4)]) .ret))⟩
def Hm:Qa:=⟨1,[.t 2],(.seq (.Ze [p 2 (.Za (.k (.bool false)))]) (.seq (.Ze [p 3 (.Za 0),p 4 (.bin .leq 3 (.k (.int .i64 0))),p 2 (.Za 4)]) .ret))⟩
def Hn:Qa:=⟨1,[.t 2],(.seq (.Ze [p 2 (.Za (.k (.bool false)))]) (.seq (.Ze [p 3 (.Za 0),p 4 (.bin .gtr 3 (.k (.int .i64 0))),p 2 (.Za 4)]) .ret))⟩
def Ho:Qa:=⟨1,[.t 2],(.seq (.Ze [p 2 (.Za (.k (.bool false)))]) (.seq (.Ze [p 3 (.Za 0),p 4 (.bin .geq 3 (.k (.int .i64 0))),p 2 (.Za 4)]) .ret))⟩
def Jp:Qa:=⟨2,[.cell 4 (some 67),.t 5],(.seq (.Ze [n 2 (.box 493 true 0),n 4 (.alloc 457 true Qi),p 5 (.Za (.k (.int .i64 0)))]) (.seq (.Ze [r 15 (.load
 (some 67) 2),n 16 (.Qe 3 2 [(.int .i64 0),(.int .i64 0)] [(0,1,(.k (.int .i64 5))),(1,1,(.k (.int .i64 0)))]),w 17 (.call (.k (.fn 382 [] [])) [15,16]),p 14 (.Za 17),
 p 18 (.Zq 0 14),p 19 (.Zq 1 14),p 6 (.Za 18),p 7 (.Za 19)]) (.seq (.Zd [1,2,4,6,7]) (.seq (.seq (.Ze [p 20 (.Za 7),p 21 (.bin .neq 20 (.k (.int .i64 0)))]) (.cond
 21 (.seq (.Ze [p 22 (.Zi 0 2),r 23 (.load (some 67) 22),p 24 (.Za 7),w0 (.store 67 4 23),p 5 (.Za 24)]) .ret) .skip)) (.seq (.Ze [p 8 (.Za (.k (.int .i64 1)))]) (.seq (.seq
 (.Ze [p 25 (.Za 6),p 26 (.Zu 7 25 (.k (.int .i64 0))),p 27 (.Zi 0 26),r 28 (.load none 27),p 29 (.bin .eql 28 (.k (.int .i64 6)))]) (.cond 29 (.Ze [p 8 (.Za (.k (.int
 .i64 2)))]) .skip)) (.seq (.seq (.Ze [p 30 (.Za 8),p 31 (.Za 6),p 32 (.Zu 7 31 (.k (.int .i64 1))),p 33 (.Zi 0 32),r 34 (.load none 33),w 35 (.call (.k (.fn 383 [] []))
 [30,34]),p 36 (.un .not 35)]) (.cond 36 (.seq (.Ze [p 37 (.Zi 0 2),r 38 (.load (some 67) 37),w0 (.store 67 4 38),p 5 (.Za (.k (.int .i64 22)))]) .ret) .skip)) (.seq (.Zd
 [1,2,4,6,8]) (.seq (.Ze [p 9 (.Za (.k (.int .i64 0)))]) (.seq (.seq (.Ze [p 39 (.Za 8),p 40 (.bin .eql 39 (.k (.int .i64 2)))]) (.cond 40 (.seq (.Kv [.op 0 (p 42 (.Zi
 0 2)),.op 1 (p 43 (.Zi 2 42)),.op 2 (r 44 (.load none 43)),.op 3 (p 45 (.Za 6)),.op 4 (p 46 (.Zu 7 45 (.k (.int .i64 0)))),.op 5 (r 47 (.load (some 7) 46)),.op 6 (w 48
 (.call (.k (.fn 357 [] [])) [44,47])),.op 7 (p 41 (.Za 48)),.op 8 (p 49 (.Zq 0 41)),.op 9 (p 50 (.Zq 1 41)),.op 10 (p 10 (.Za 49)),.op 11 (p 11 (.Za 50))]) (.seq (.Zd
 [1,2,4,6,10]) (.seq (.Kv [.op 0 (p 52 (.Zi 0 2)),.op 1 (p 53 (.Zi 2 52)),.op 2 (r 54 (.load none 53)),.op 3 (p 55 (.Za 6)),.op 4 (p 56 (.Zu 7 55 (.k (.int .i64
 1)))),.op 5 (r 57 (.load (some 7) 56)),.op 6 (w 58 (.call (.k (.fn 357 [] [])) [54,57])),.op 7 (p 51 (.Za 58)),.op 8 (p 59 (.Zq 0 51)),.op 9 (p 60 (.Zq 1 51)),.op 10 (p
 12 (.Za 59)),.op 11 (p 13 (.Za 60))]) (.seq (.Zd [1,2,4,10,12]) (.Ze [p 61 (.Za 10),p 62 (.Za 12),w 63 (.call (.k (.fn 384 [] [])) [61,62]),p 9 (.Za 63)]))))) (.Kv
 [.op 0 (p 65 (.Za 6)),.op 1 (p 66 (.Zu 7 65 (.k (.int .i64 0)))),.op 2 (r 67 (.load (some 7) 66)),.op 3 (p 68 (.Za 6)),.op 4 (p 69 (.Zu 7 68 (.k (.int .i64 1)))),.op
 5 (r 70 (.load (some 7) 69)),.op 6 (w 71 (.call (.k (.fn 385 [] [])) [67,70])),.op 7 (p 64 (.Za 71)),.op 8 (p 72 (.Zq 0 64)),.op 9 (p 73 (.Zq 1 64)),.op 10 (p 9 (.Za 72))])))
 (.seq (.Zd [1,2,4,9]) (.seq (.Kv [.op 0 (r 74 (.load (some 67) 2)),.op 1 (p 75 (.Za 1)),.op 2 (p 76 (.Za 9)),.op 3 (w 77 (.call 75 [76])),.re 0,.op 4 (w 78 (.call (.k
 (.fn 343 [] [])) [77])),.re 0,.op 5 (w 79 (.call (.k (.fn 386 [] [])) [74,(.k (.int .i64 2)),78])),.op 6 (p 80 (.Zq 0 79)),.op 7 (p 81 (.Zq 1 79)),.op 8 (w0 (.store 67 4
 80)),.op 9 (p 5 (.Za 81))]) .ret))))))))))))⟩
def Hp:Qa:=⟨2,[.t 4],(.seq (.Ze [p 4 (.Za (.k (.int .i64 0)))]) (.seq (.Ze [p 5 (.Za 0),p 6 (.Za 1),p 7 (.bin .and 5 6),p 4 (.Za 7)]) .ret))⟩
def Hq:Qa:=⟨2,[.t 4],(.seq (.Ze [p 4 (.Za (.k (.int .i64 0)))]) (.seq (.Ze [p 5 (.Za 0),p 6 (.Za 1),p 7 (.bin .or 5 6),p 4 (.Za 7)]) .ret))⟩
def Hr:Qa:=⟨2,[.t 4],(.seq (.Ze [p 4 (.Za (.k (.int .i64 0)))]) (.seq (.Ze [p 5 (.Za 0),p 6 (.Za 1),p 7 (.bin .xor 5 6),p 4 (.Za 7)]) .ret))⟩
def K4:Qa:=⟨2,[.cell 4 (some 67),.t 5],(.seq (.Ze [n 2 (.box 493 true 0),n 4 (.alloc 457 true Qi),p 5 (.Za (.k (.int .i64 0)))]) (.seq (.Ze [r 9 (.load
 (some 67) 2),n 10 (.Qe 3 2 [(.int .i64 0),(.int .i64 0)] [(0,1,(.k (.int .i64 6))),(1,1,(.k (.int .i64 0)))]),w 11 (.call (.k (.fn 382 [] [])) [9,10]),p 8 (.Za 11),
 p 12 (.Zq 0 8),p 13 (.Zq 1 8),p 6 (.Za 12),p 7 (.Za 13)]) (.seq (.Zd [1,2,4,6,7]) (.seq (.seq (.Ze [p 14 (.Za 7),p 15 (.bin .neq 14 (.k (.int .i64 0)))]) (.cond 15
 (.seq (.Ze [p 16 (.Zi 0 2),r 17 (.load (some 67) 16),p 18 (.Za 7),w0 (.store 67 4 17),p 5 (.Za 18)]) .ret) .skip)) (.seq (.seq (.Kv [.op 0 (p 19 (.Za 6)),.op 1 (p 20 (.Zu
 7 19 (.k (.int .i64 0)))),.op 2 (p 21 (.Zi 0 20)),.op 3 (r 22 (.load none 21)),.op 4 (p 23 (.Za 6)),.op 5 (p 24 (.Zu 7 23 (.k (.int .i64 1)))),.op 6 (p 25 (.Zi 0 24)),
 .op 7 (r 26 (.load none 25)),.op 8 (p 27 (.bin .neq 22 26))]) (.seq (.Zd [1,2,4,6,27]) (.cond 27 (.seq (.Ze [p 28 (.Zi 0 2),r 29 (.load (some 67) 28),w0 (.store 67 4 29),
 p 5 (.Za (.k (.int .i64 22)))]) .ret) .skip))) (.seq (.Zd [1,2,4,6]) (.seq (.Kv [.op 0 (r 30 (.load (some 67) 2)),.op 1 (p 31 (.Za 6)),.op 2 (p 32 (.Zu 7 31 (.k (.int
 .i64 0)))),.op 3 (p 33 (.Zi 0 32)),.op 4 (r 34 (.load none 33)),.op 6 (p 36 (.Za 6)),.op 7 (p 37 (.Zu 7 36 (.k (.int .i64 0)))),.op 8 (p 38 (.Zi 2 37)),.op 9 (r 39
 (.load none 38)),.op 10 (p 40 (.Za 6)),.op 11 (p 41 (.Zu 7 40 (.k (.int .i64 1)))),.op 12 (p 42 (.Zi 2 41)),.op 13 (r 43 (.load none 42)),.op 5 (p 35 (.Za 1)),.op 14
 (w 44 (.call 35 [39,43])),.re 0,.re 4,.op 15 (p 45 (.build zOb [(0,1,34),(2,1,44)])),.op 16 (w 46 (.call (.k (.fn 386 [] [])) [30,(.k (.int .i64 2)),45])),.op 17 (p 47
 (.Zq 0 46)),.op 18 (p 48 (.Zq 1 46)),.op 19 (w0 (.store 67 4 47)),.op 20 (p 5 (.Za 48))]) .ret)))))))⟩
def Jr:Qa:=⟨3,[.cell 6 (some 67),.t 7],(.seq (.Ze [n 3 (.box 493 true 0),n 6 (.alloc 457 true Qi),p 7 (.Za (.k (.int .i64 0)))]) (.seq (.Ze [r 12 (.load
 (some 67) 3),p 13 (.Za 1),n 14 (.Qe 3 1 [(.int .i64 0)] [(0,1,13)]),w 15 (.call (.k (.fn 382 [] [])) [12,14]),p 11 (.Za 15),p 16 (.Zq 0 11),p 17 (.Zq 1 11),p 8
 (.Za 16),p 9 (.Za 17)]) (.seq (.Zd [2,3,6,8,9]) (.seq (.seq (.Ze [p 18 (.Za 9),p 19 (.bin .neq 18 (.k (.int .i64 0)))]) (.cond 19 (.seq (.Ze [p 20 (.Zi 0 3),r 21 (.load
 (some 67) 20),p 22 (.Za 9),w0 (.store 67 6 21),p 7 (.Za 22)]) .ret) .skip)) (.seq (.Ze [p 24 (.Za 2),p 25 (.Za 8),p 26 (.Zu 7 25 (.k (.int .i64 0))),r 27 (.load (some
 7) 26),w 28 (.call 24 [27]),p 23 (.Za 28),p 29 (.Zq 0 23),p 30 (.Zq 1 23),n 10 (.alloc 451 true zOb),w0 (.store 7 10 29),p 9 (.Za 30)]) (.seq (.Zd [3,6,9,10]) (.seq
 (.seq (.Ze [p 31 (.Za 9),p 32 (.bin .neq 31 (.k (.int .i64 0)))]) (.cond 32 (.seq (.Ze [p 33 (.Zi 0 3),r 34 (.load (some 67) 33),p 35 (.Za 9),w0 (.store 67 6 34),p 7 (.Za
 35)]) .ret) .skip)) (.seq (.Ze [r 36 (.load (some 67) 3),r 37 (.load (some 7) 10),w 38 (.call (.k (.fn 386 [] [])) [36,(.k (.int .i64 1)),37]),p 39 (.Zq 0 38),p 40 (.Zq 1
 38),w0 (.store 67 6 39),p 7 (.Za 40)]) .ret))))))))⟩
def Y9:Qa:=⟨2,[.cell 4 (some 67),.t 5],(.seq (.Ze [n 2 (.box 493 true 0),n 4 (.alloc 457 true Qi),p 5 (.Za (.k (.int .i64 0)))]) (.seq (.Ze [r 9 (.load
 (some 67) 2),n 10 (.Qe 3 2 [(.int .i64 0),(.int .i64 0)] [(0,1,(.k (.int .i64 0))),(1,1,(.k (.int .i64 0)))]),w 11 (.call (.k (.fn 382 [] [])) [9,10]),p 8 (.Za 11),
 p 12 (.Zq 0 8),p 13 (.Zq 1 8),p 6 (.Za 12),p 7 (.Za 13)]) (.seq (.Zd [1,2,4,6,7]) (.seq (.seq (.Ze [p 14 (.Za 7),p 15 (.bin .neq 14 (.k (.int .i64 0)))]) (.cond 15
 (.seq (.Ze [p 16 (.Zi 0 2),r 17 (.load (some 67) 16),p 18 (.Za 7),w0 (.store 67 4 17),p 5 (.Za 18)]) .ret) .skip)) (.seq (.Kv [.op 0 (r 19 (.load (some 67) 2)),.op 1 (p
 20 (.Zi 0 2)),.op 2 (p 21 (.Zi 2 20)),.op 3 (r 22 (.load none 21)),.op 4 (p 23 (.Za 6)),.op 5 (p 24 (.Zu 7 23 (.k (.int .i64 0)))),.op 6 (r 25 (.load (some 7) 24)),
 .op 7 (p 26 (.Za 6)),.op 8 (p 27 (.Zu 7 26 (.k (.int .i64 1)))),.op 9 (r 28 (.load (some 7) 27)),.op 10 (w 29 (.call (.k (.fn 387 [] [])) [22,25,28])),.re 0,.op 11 (p 30
 (.Za 1)),.op 12 (p 31 (.eqB false 29 30)),.op 13 (w 32 (.call (.k (.fn 343 [] [])) [31])),.re 0,.op 14 (w 33 (.call (.k (.fn 386 [] [])) [19,(.k (.int .i64 2)),32])),.op 15
 (p 34 (.Zq 0 33)),.op 16 (p 35 (.Zq 1 33)),.op 17 (w0 (.store 67 4 34)),.op 18 (p 5 (.Za 35))]) .ret)))))⟩
def Wa:Qa:=⟨1,[.cell 2 (some 67),.t 3],(.seq (.Ze [n 1 (.box 493 true 0),n 2 (.alloc 457 true Qi),p 3 (.Za (.k (.int .i64 0)))]) (.seq (.Ze [r 8 (.load
 (some 67) 1),n 9 (.Qe 3 1 [(.int .i64 0)] [(0,1,(.k (.int .i64 6)))]),w 10 (.call (.k (.fn 382 [] [])) [8,9]),p 7 (.Za 10),p 11 (.Zq 0 7),p 12 (.Zq 1 7),p 4 (.Za
 11),p 5 (.Za 12)]) (.seq (.Zd [1,2,4,5]) (.seq (.seq (.Ze [p 13 (.Za 5),p 14 (.bin .neq 13 (.k (.int .i64 0)))]) (.cond 14 (.seq (.Ze [p 15 (.Zi 0 1),r 16 (.load (some
 67) 15),p 17 (.Za 5),w0 (.store 67 2 16),p 3 (.Za 17)]) .ret) .skip)) (.seq (.Kv [.op 0 (p 18 (.Za 4)),.op 1 (p 19 (.Zu 7 18 (.k (.int .i64 0)))),.op 2 (p 20 (.Zi 0
 19)),.op 3 (r 21 (.load none 20)),.op 4 (p 22 (.Za 4)),.op 5 (p 23 (.Zu 7 22 (.k (.int .i64 0)))),.op 6 (p 24 (.Zi 2 23)),.op 7 (r 25 (.load none 24)),.op 8 (p 26 (.bin
 .sub (.k (.int .i64 (-1))) 25)),.op 9 (p 27 (.build zOb [(0,1,21),(2,1,26)])),.op 10 (n 6 (.alloc 451 true zOb)),.op 11 (w0 (.store 7 6 27))]) (.seq (.Zd [1,2,4,6]) (.seq
 (.seq (.Ze [p 28 (.Zi 0 6),r 29 (.load none 28),p 30 (.bin .eql 29 (.k (.int .i64 2)))]) (.cond 30 (.Ze [p 31 (.Za 4),p 32 (.Zu 7 31 (.k (.int .i64 0))),p 33 (.Zi 2
 32),r 34 (.load none 33),p 35 (.bin .sub (.k (.int .i64 1)) 34),p 36 (.Zi 2 6),w0 (.store 1 36 35)]) .skip)) (.seq (.Zd [1,2,6]) (.seq (.Ze [r 37 (.load (some 67) 1),r
 38 (.load (some 7) 6),w 39 (.call (.k (.fn 386 [] [])) [37,(.k (.int .i64 1)),38]),p 40 (.Zq 0 39),p 41 (.Zq 1 39),w0 (.store 67 2 40),p 3 (.Za 41)]) .ret)))))))))⟩
def K5:Qa:=⟨1,[.cell 2 (some 67),.t 3],(.seq (.Ze [n 1 (.box 493 true 0),n 2 (.alloc 457 true Qi),p 3 (.Za (.k (.int .i64 0)))]) (.seq (.Ze [r 9 (.load
 (some 67) 1),n 10 (.Qe 3 2 [(.int .i64 0),(.int .i64 0)] [(0,1,(.k (.int .i64 4))),(1,1,(.k (.int .i64 4)))]),w 11 (.call (.k (.fn 382 [] [])) [9,10]),p 8 (.Za 11),
 p 12 (.Zq 0 8),p 13 (.Zq 1 8),p 4 (.Za 12),p 5 (.Za 13)]) (.seq (.Zd [1,2,4,5]) (.seq (.seq (.Ze [p 14 (.Za 5),p 15 (.bin .neq 14 (.k (.int .i64 0)))]) (.cond 15 (.seq
 (.Ze [p 16 (.Zi 0 1),r 17 (.load (some 67) 16),p 18 (.Za 5),w0 (.store 67 2 17),p 3 (.Za 18)]) .ret) .skip)) (.seq (.Kv [.op 0 (p 19 (.Za 4)),.op 1 (p 20 (.Zu 7 19
 (.k (.int .i64 0)))),.op 2 (p 21 (.Zi 2 20)),.op 3 (r 22 (.load none 21)),.op 5 (p 24 (.Za 4)),.op 6 (p 25 (.Zu 7 24 (.k (.int .i64 1)))),.op 7 (p 26 (.Zi 2 25)),.op
 8 (r 27 (.load none 26)),.op 4 (p 23 (.conv .u32 22)),.op 9 (p 6 (.Za 23)),.op 10 (p 7 (.Za 27))]) (.seq (.Zd [1,2,6,7]) (.seq (.block 0 (.seq (.Ze [p 33 (.Za 7),p 34 (.bin
 .geq 33 (.k (.int .i64 32))),p 35 (.Za 34),pg 36 35 false (.Za 7),pg 37 35 false (.bin .leq 36 (.k (.int .i64 (-32)))),p 38 (.pick 35 (.k (.bool true)) 37),p 32 (.Za 38)]) (.cond
 32 (.Ze [p 6 (.Za (.k (.int .u32 0)))]) (.seq (.Ze [p 40 (.Za 7),p 41 (.bin .geq 40 (.k (.int .i64 0))),p 39 (.Za 41)]) (.cond 39 (.Ze [p 42 (.Za 6),p 43 (.Za 7),p 44 (.bin
 .shl 42 43),p 6 (.Za 44)]) (.Ze [p 28 (.Za 6),p 29 (.Za 7),p 30 (.un .neg 29),p 31 (.bin .shr 28 30),p 6 (.Za 31)])))))) (.seq (.Zd [1,2,6]) (.seq (.Ze [r 45 (.load (some
 67) 1),p 46 (.Za 6),p 47 (.conv .i32 46),p 48 (.conv .i64 47),p 49 (.build zOb [(0,1,(.k (.int .i64 3))),(2,1,48)]),w 50 (.call (.k (.fn 386 [] [])) [45,(.k (.int .i64 2)),
 49]),p 51 (.Zq 0 50),p 52 (.Zq 1 50),w0 (.store 67 2 51),p 3 (.Za 52)]) .ret)))))))))⟩
def Kp:Qa:=⟨1,[.cell 2 (some 7)],(.seq (.Ze [n 2 (.alloc 451 true zOb)]) (.seq (.Ze [p 4 (.build zOb [(0,1,(.k (.int .i64 2)))]),n 3 (.alloc 451 true zOb),w0
 (.store 7 3 4)]) (.seq (.seq (.Ze [p 5 (.Za 0)]) (.cond 5 (.Ze [p 6 (.Zi 2 3),w0 (.store 1 6 (.k (.int .i64 1)))]) .skip)) (.seq (.Ze [r 7 (.load (some 7) 3),w0 (.store 7 2
 7)]) .ret))))⟩
def Uw:Qa:=⟨2,[.cell 4 (some 67),.t 5],(.seq (.Ze [n 2 (.box 457 true 0),n 4 (.alloc 457 true Qi),p 5 (.Za (.k (.int .i64 0)))]) (.seq (.seq (.Ze [p 6 (.Zi
 0 2),r 7 (.load none 6),p 8 (.lenOf false 7),p 9 (.Za 1),p 10 (.lenOf false 9),p 11 (.bin .add 8 10),p 12 (.bin .gtr 11 (.k (.int .i64 100)))]) (.cond 12 (.seq (.Ze [r 13 (.load
 (some 67) 2),w0 (.store 67 4 13),p 5 (.Za (.k (.int .i64 21)))]) .ret) .skip)) (.seq (.Zd [1,2,4]) (.seq (.Ze [p 14 (.Zi 0 2),r 15 (.load none 14),p 16 (.Zi 0 2),r
 17 (.load none 16),p 18 (.lenOf false 17),p 19 (.Zi 0 2),r 20 (.load none 19),p 21 (.lenOf false 20),p 22 (.Zia 7 15 none (some 18) (some 21)),p 23 (.Za 1),w 24 (.append
 451 7 64 zOb 22 23),p 25 (.Zi 0 2),w0 (.store 1 25 24)]) (.seq (.Zd [2,4]) (.seq (.Ze [r 26 (.load (some 67) 2),w0 (.store 67 4 26),p 5 (.Za (.k (.int .i64 0)))]) .ret))))))⟩
def Na:Qa:=⟨1,[.cell 2 (some 7),.t 3],(.seq (.Ze [n 1 (.box 451 true 0),n 2 (.alloc 451 true zOb),p 3 (.Za (.k (.int .i64 0)))]) (.seq (.Ze [r 7 (.load (some
 7) 1),w 8 (.call (.k (.fn 305 [] [])) [7]),p 6 (.Za 8),p 9 (.Zq 0 6),p 10 (.Zq 1 6),p 4 (.Za 9),p 5 (.Za 10)]) (.seq (.Ze [p 11 (.Za 4),w 12 (.call (.k (.fn 388 [] []))
 [11,(.k (.bool true))]),p 13 (.Zq 0 12),p 14 (.Zq 1 12),w0 (.store 7 2 13),p 3 (.Za 14)]) .ret)))⟩
def Hs:Qa:=⟨1,[.cell 2 (some 7),.t 3],(.seq (.Ze [n 1 (.box 451 true 0),n 2 (.alloc 451 true zOb),p 3 (.Za (.k (.int .i64 0)))]) (.seq (.Ze [p 4 (.Zi 1 1),
 r 5 (.load none 4),w 6 (.call (.k (.fn 343 [] [])) [5]),w0 (.store 7 2 6),p 3 (.Za (.k (.int .i64 0)))]) .ret))⟩
def Kl:Qa:=⟨1,[.t 2],(.seq (.Ze [n 1 (.box 4 false 0),p 2 (.Za (.k .Jx))]) (.seq (.Ze [p 3 (.Pz 389 [] [1]),p 2 (.Za 3)]) .ret))⟩
def Vu:Qa:=⟨2,[.cell 4 (some 7),.t 5],(.seq (.Ze [n 2 (.box 493 true 0),n 3 (.box 451 true 1),n 4 (.alloc 451 true zOb),p 5 (.Za (.k (.int .i64 0)))]) (.seq
 (.Ze [p 11 (.Zi 0 2),p 12 (.Zi 2 11),r 13 (.load none 12),r 14 (.load (some 7) 3),w 15 (.call (.k (.fn 357 [] [])) [13,14]),p 10 (.Za 15),p 16 (.Zq 0 10),p 17 (.Zq
 1 10),p 6 (.Za 16),p 7 (.Za 17)]) (.seq (.Zd [3,4,6]) (.seq (.Ze [p 19 (.Za 6),p 20 (.Zi 1 3),r 21 (.load none 20),w 22 (.call (.k (.fn 388 [] [])) [19,21]),p 18 (.Za
 22),p 23 (.Zq 0 18),p 24 (.Zq 1 18),n 8 (.alloc 451 true zOb),w0 (.store 7 8 23),p 9 (.Za 24)]) (.seq (.Zd [4,8,9]) (.seq (.seq (.Ze [p 25 (.Za 9),p 26 (.bin .neq 25
 (.k (.int .i64 0)))]) (.cond 26 (.seq (.Ze [p 27 (.build zOb []),w0 (.store 7 4 27),p 5 (.Za (.k (.int .i64 23)))]) .ret) .skip)) (.seq (.Ze [r 28 (.load (some 7) 8),w0 (.store
 7 4 28),p 5 (.Za (.k (.int .i64 0)))]) .ret)))))))⟩
def Q0:Qa:=⟨2,[.t 4],(.seq (.Ze [n 2 (.box 493 false 0),n 3 (.box 504 false 1),p 4 (.Za (.k .Jx))]) (.seq (.Ze [p 5 (.Pz 390 [] [2,3]),p 4 (.Za
 5)]) .ret))⟩
def Wm:Qa:=⟨1,[.cell 2 (some 7),.t 3],(.seq (.Ze [n 1 (.box 451 true 0),n 2 (.alloc 451 true zOb),p 3 (.Za (.k (.int .i64 0)))]) (.seq (.Ze [r 7 (.load (some
 7) 1),w 8 (.call (.k (.fn 391 [] [])) [7]),p 6 (.Za 8),p 9 (.Zq 0 6),p 10 (.Zq 1 6),p 4 (.Za 9),p 5 (.Za 10)]) (.seq (.seq (.Ze [p 11 (.Za 5),p 12 (.bin .neq 11 (.k
 (.int .i64 0)))]) (.cond 12 (.seq (.Ze [p 13 (.build zOb []),p 14 (.Za 5),w0 (.store 7 2 13),p 3 (.Za 14)]) .ret) .skip)) (.seq (.Ze [p 15 (.Za 4),p 16 (.bin .quo 15 (.k (.int
 .i64 65536))),w 17 (.call (.k (.fn 392 [] [])) [16]),p 18 (.Zq 0 17),p 19 (.Zq 1 17),w0 (.store 7 2 18),p 3 (.Za 19)]) .ret))))⟩
def Li:Qa:=⟨1,[.cell 2 (some 7),.t 3],(.seq (.Ze [n 1 (.box 451 true 0),n 2 (.alloc 451 true zOb),p 3 (.Za (.k (.int .i64 0)))]) (.seq (.Ze [r 7 (.load (some
 7) 1),w 8 (.call (.k (.fn 391 [] [])) [7]),p 6 (.Za 8),p 9 (.Zq 0 6),p 10 (.Zq 1 6),p 4 (.Za 9),p 5 (.Za 10)]) (.seq (.seq (.Ze [p 11 (.Za 5),p 12 (.bin .neq 11 (.k
 (.int .i64 0)))]) (.cond 12 (.seq (.Ze [p 13 (.build zOb []),p 14 (.Za 5),w0 (.store 7 2 13),p 3 (.Za 14)]) .ret) .skip)) (.seq (.seq (.Ze [p 15 (.Za 4),p 16 (.bin .lss 15
 (.k (.int .i64 (-2147483648)))),p 17 (.Za 16),pg 18 17 false (.Za 4),pg 19 17 false (.bin .gtr 18 (.k (.int .i64 2147483648))),p 20 (.pick 17 (.k (.bool true)) 19)]) (.cond 20
 (.seq (.Ze [p 21 (.build zOb []),w0 (.store 7 2 21),p 3 (.Za (.k (.int .i64 25)))]) .ret) .skip)) (.seq (.Zd [2,4]) (.seq (.Ze [p 22 (.Za 4),w 23 (.call (.k (.fn 393 [] []))
 [22]),p 24 (.Zq 0 23),p 25 (.Zq 1 23),w0 (.store 7 2 24),p 3 (.Za 25)]) .ret))))))⟩
def U9:Qa:=⟨1,[.cell 2 (some 67),.t 3],(.seq (.Ze [n 1 (.box 493 true 0),n 2 (.alloc 457 true Qi),p 3 (.Za (.k (.int .i64 0)))]) (.seq (.Ze [r 7 (.load
 (some 67) 1),n 8 (.Qe 3 2 [(.int .i64 0),(.int .i64 0)] [(0,1,(.k (.int .i64 0))),(1,1,(.k (.int .i64 2)))]),w 9 (.call (.k (.fn 382 [] [])) [7,8]),p 6 (.Za 9),p 10
 (.Zq 0 6),p 11 (.Zq 1 6),p 4 (.Za 10),p 5 (.Za 11)]) (.seq (.Zd [1,2,4,5]) (.seq (.seq (.Ze [p 12 (.Za 5),p 13 (.bin .neq 12 (.k (.int .i64 0)))]) (.cond 13 (.seq (.Ze
 [p 14 (.Zi 0 1),r 15 (.load (some 67) 14),p 16 (.Za 5),w0 (.store 67 2 15),p 3 (.Za 16)]) .ret) .skip)) (.seq (.Kv [.op 0 (r 17 (.load (some 67) 1)),.op 1 (p 18 (.Zi
 0 1)),.op 2 (p 19 (.Zi 2 18)),.op 3 (r 20 (.load none 19)),.op 4 (p 21 (.Za 4)),.op 5 (p 22 (.Zu 7 21 (.k (.int .i64 0)))),.op 6 (r 23 (.load (some 7) 22)),.op 8 (p 25
 (.Za 4)),.op 9 (p 26 (.Zu 7 25 (.k (.int .i64 1)))),.op 10 (r 27 (.load (some 7) 26)),.op 7 (w 24 (.call (.k (.fn 316 [] [])) [20,23])),.re 0,.re 10,.op 11 (w 28 (.call
 (.k (.fn 394 [] [])) [17,(.k (.int .i64 2)),24,27])),.op 12 (p 29 (.Zq 0 28)),.op 13 (p 30 (.Zq 1 28)),.op 14 (w0 (.store 67 2 29)),.op 15 (p 3 (.Za 30))]) .ret)))))⟩
def Ul:Qa:=⟨1,[.cell 2 (some 67),.t 3],(.seq (.Ze [n 1 (.box 493 true 0),n 2 (.alloc 457 true Qi),p 3 (.Za (.k (.int .i64 0)))]) (.seq (.Ze [r 11 (.load
 (some 67) 1),n 12 (.Qe 3 3 [(.int .i64 0),(.int .i64 0),(.int .i64 0)] [(0,1,(.k (.int .i64 1))),(1,1,(.k (.int .i64 4))),(2,1,(.k (.int .i64 2)))]),w 13 (.call (.k
 (.fn 382 [] [])) [11,12]),p 10 (.Za 13),p 14 (.Zq 0 10),p 15 (.Zq 1 10),p 4 (.Za 14),p 5 (.Za 15)]) (.seq (.Zd [1,2,4,5]) (.seq (.seq (.Ze [p 16 (.Za 5),p 17 (.bin
 .neq 16 (.k (.int .i64 0)))]) (.cond 17 (.seq (.Ze [p 18 (.Zi 0 1),r 19 (.load (some 67) 18),p 20 (.Za 5),w0 (.store 67 2 19),p 3 (.Za 20)]) .ret) .skip)) (.seq (.Ze [p 21
 (.Za 4),p 22 (.Zu 7 21 (.k (.int .i64 1))),p 23 (.Zi 2 22),r 24 (.load none 23),p 6 (.Za 24)]) (.seq (.seq (.Ze [p 25 (.Za 6),p 26 (.bin .lss 25 (.k (.int .i64 2))),
 p 27 (.Za 26),pg 28 27 false (.Za 6),pg 29 27 false (.bin .gtr 28 (.k (.int .i64 36))),p 30 (.pick 27 (.k (.bool true)) 29)]) (.cond 30 (.seq (.Ze [p 31 (.Zi 0 1),r 32 (.load
 (some 67) 31),w0 (.store 67 2 32),p 3 (.Za (.k (.int .i64 23)))]) .ret) .skip)) (.seq (.Zd [1,2,4,6]) (.seq (.Kv [.op 0 (p 33 (.Zi 0 1)),.op 1 (p 34 (.Zi 2 33)),.op
 2 (r 35 (.load none 34)),.op 3 (p 36 (.Za 4)),.op 4 (p 37 (.Zu 7 36 (.k (.int .i64 0)))),.op 5 (r 38 (.load (some 7) 37)),.op 6 (w 39 (.call (.k (.fn 316 [] [])) [35,38])),
 .op 7 (p 7 (.Za 39))]) (.seq (.Zd [1,2,4,6,7]) (.seq (.seq (.Ze [p 40 (.Za 6),p 41 (.bin .neq 40 (.k (.int .i64 10)))]) (.cond 41 (.seq (.Ze [p 43 (.Za 4),p 44 (.Zu
 7 43 (.k (.int .i64 0))),r 45 (.load (some 7) 44),w 46 (.call (.k (.fn 350 [] [])) [45]),p 42 (.Za 46),p 47 (.Zq 0 42),p 48 (.Zq 1 42),n 8 (.alloc 451 true zOb),w0 (.store
 7 8 47),p 9 (.Za 48)]) (.seq (.Zd [1,2,4,6,8]) (.Ze [p 49 (.Zi 2 8),r 50 (.load none 49),p 51 (.conv .u32 50),p 52 (.conv .u64 51),p 53 (.Za 6),w 54 (.call (.k (.fn
 395 [] [])) [52,53]),w 55 (.call (.k (.fn 396 [] [])) [54]),p 7 (.Za 55)]))) .skip)) (.seq (.Zd [1,2,4,7]) (.seq (.Kv [.op 0 (r 56 (.load (some 67) 1)),.op 2 (p 58 (.Za
 4)),.op 3 (p 59 (.Zu 7 58 (.k (.int .i64 2)))),.op 4 (r 60 (.load (some 7) 59)),.op 1 (p 57 (.Za 7)),.op 5 (w 61 (.call (.k (.fn 394 [] [])) [56,(.k (.int .i64 3)),57,60])),
 .op 6 (p 62 (.Zq 0 61)),.op 7 (p 63 (.Zq 1 61)),.op 8 (w0 (.store 67 2 62)),.op 9 (p 3 (.Za 63))]) .ret))))))))))))⟩
def Zax:Zv:=(.seq (.Zd [0,3,4]) (.seq (.seq (.Ze [p 13 (.Za 4),p 14 (.Za 0),p 15 (.lenOf false 14),p 16 (.bin .lss 13 15),p 17 (.Za 16),pg 18 17
 true (.Za 4),pg 19 17 true (.bin .lss 18 (.k (.int .i64 200))),p 20 (.pick 17 19 (.k (.bool false)))]) (.cond 20 .skip (.exit 0))) (.seq (.Zd [0,3,4]) (.seq (.block 1 (.seq (.Kv
 [.op 1 (p 24 (.Za 3)),.op 2 (p 25 (.Zu 7 24 (.k (.int .i64 0)))),.op 3 (p 26 (.Zi 3 25)),.op 4 (r 27 (.load none 26)),.op 5 (p 28 (.Za 0)),.op 6 (p 29 (.Za 4)),.op 7
 (p 30 (.Zu 1 28 29)),.op 8 (r 31 (.load none 30)),.op 9 (w 32 (.call (.k (.fn 398 [] [])) [31])),.re 4,.op 10 (n 33 (.Qe 451 1 zOb [(0,7,32)])),.op 11 (w 34 (.append
 451 7 64 zOb 27 33)),.op 0 (p 23 (.Za 3)),.op 12 (p 35 (.Zu 7 23 (.k (.int .i64 0)))),.op 13 (p 36 (.Zi 3 35)),.op 14 (w0 (.store 1 36 34))]) (.seq (.Zd [0,3,4]) (.Kv
 [.op 1 (p 38 (.Za 3)),.op 2 (p 39 (.Zu 7 38 (.k (.int .i64 0)))),.op 3 (p 40 (.Zi 4 39)),.op 4 (r 41 (.load none 40)),.op 5 (p 42 (.Za 0)),.op 6 (p 43 (.Za 4)),.op 7
 (p 44 (.Zu 1 42 43)),.op 8 (r 45 (.load none 44)),.op 9 (p 46 (.build zOb [(0,1,(.k (.int .i64 10))),(1,1,(.k (.bool true))),(3,1,45)])),.op 10 (n 47 (.Qe 451 1
 zOb [(0,7,46)])),.op 11 (w 48 (.append 451 7 64 zOb 41 47)),.op 0 (p 37 (.Za 3)),.op 12 (p 49 (.Zu 7 37 (.k (.int .i64 0)))),.op 13 (p 50 (.Zi 4 49)),.op 14 (w0 (.store
 1 50 48))])))) (.seq (.Zd [0,3,4]) (.Ze [p 21 (.Za 4),p 22 (.bin .add 21 (.k (.int .i64 1))),p 4 (.Za 22)]))))))
def Zay:Zv:=(.seq (.Zd [3,5,6]) (.seq (.seq (.Ze [p 52 (.Za 6),p 53 (.Za 5),p 54 (.lenOf false 53),p 55 (.bin .lss 52 54)]) (.cond 55 .skip (.exit 2)))
 (.seq (.block 3 (.seq (.Kv [.op 1 (p 59 (.Za 3)),.op 2 (p 60 (.Zu 7 59 (.k (.int .i64 4)))),.op 3 (p 61 (.Zi 3 60)),.op 4 (r 62 (.load none 61)),.op 5 (p 63 (.Za 5)),
 .op 6 (p 64 (.Za 6)),.op 7 (p 65 (.Zu 1 63 64)),.op 8 (r 66 (.load none 65)),.op 9 (w 67 (.call (.k (.fn 398 [] [])) [66])),.re 4,.op 10 (n 68 (.Qe 451 1 zOb [(0,7,
 67)])),.op 11 (w 69 (.append 451 7 64 zOb 62 68)),.op 0 (p 58 (.Za 3)),.op 12 (p 70 (.Zu 7 58 (.k (.int .i64 4)))),.op 13 (p 71 (.Zi 3 70)),.op 14 (w0 (.store 1 71 69))])
 (.seq (.Zd [3,5,6]) (.seq (.Ze [p 72 (.Za 3),p 73 (.Za 3),p 74 (.Zu 7 73 (.k (.int .i64 4))),p 75 (.Zi 4 74),r 76 (.load none 75),p 77 (.Za 6),p 78 (.bin .add (.k
 (.int .i64 5)) 77),p 79 (.build zOb [(0,1,(.k (.int .i64 9))),(4,1,78)]),n 80 (.Qe 451 1 zOb [(0,7,79)]),w 81 (.append 451 7 64 zOb 76 80),p 82 (.Zu 7 72 (.k (.int
 .i64 4))),p 83 (.Zi 4 82),w0 (.store 1 83 81)]) (.seq (.Zd [3,5,6]) (.Ze [p 84 (.Za 3),w 85 (.call (.k (.fn 397 [] [])) [(.k (.int .i64 10))]),n 86 (.Qe 486 1 zCe
 [(0,7,85)]),w 87 (.append 486 7 112 zCe 84 86),p 3 (.Za 87)])))))) (.seq (.Zd [3,5,6]) (.Ze [p 56 (.Za 6),p 57 (.bin .add 56 (.k (.int .i64 1))),p 6 (.Za 57)])))))
def Uj:Qa:=⟨1,[.t 2],(.seq (.Ze [p 2 (.Za (.k .Zc))]) (.seq (.Ze [w 7 (.call (.k (.fn 397 [] [])) [(.k (.int .i64 200))]),w 8 (.call (.k (.fn 397 []
 [])) [(.k (.int .i64 50))]),w 9 (.call (.k (.fn 397 [] [])) [(.k (.int .i64 30))]),w 10 (.call (.k (.fn 397 [] [])) [(.k (.int .i64 12))]),w 11 (.call (.k (.fn 397 [] [])) [(.k (.int
 .i64 5))]),n 12 (.Qe 486 5 [(.int .i64 0),(.str []),.Zc,.Zc,.Zc,(.int .i64 0),(.int .i64 0),(.int .i64 0),(.str []),.Zc,.Zc,.Zc,
 (.int .i64 0),(.int .i64 0),(.int .i64 0),(.str []),.Zc,.Zc,.Zc,(.int .i64 0),(.int .i64 0),(.int .i64 0),(.str []),.Zc,.Zc,.Zc,(.int
 .i64 0),(.int .i64 0),(.int .i64 0),(.str []),.Zc,.Zc,.Zc,(.int .i64 0),(.int .i64 0)] [(0,7,7),(7,7,8),(14,7,9),(21,7,10),(28,7,11)]),p 3 (.Za
 12)]) (.seq (.seq (.Ze [p 4 (.Za (.k (.int .i64 0)))]) (.block 0 (.loop Zax))) (.seq (.Zd [3]) (.seq (.Ze [w 51 (.call (.k (.fn 399 [] [])) []),p 5 (.Za 51)])
 (.seq (.seq (.Ze [p 6 (.Za (.k (.int .i64 0)))]) (.block 2 (.loop Zay))) (.seq (.Zd [3]) (.seq (.Ze [p 88 (.Za 3),p 2 (.Za 88)]) .ret))))))))⟩
def Vr:Zv:=(.seq (.Zd [1,2,4,6,7]) (.seq (.seq (.Ze [p 30 (.Za 7),p 31 (.Zi 1 2),r 32 (.load none 31),p 33 (.bin .rem 32 (.k (.int .u8 6))),
 p 34 (.conv .i64 33),p 35 (.bin .lss 30 34)]) (.cond 35 .skip (.exit 1))) (.seq (.block 2 (.seq (.Kv [.op 0 (p 38 (.Zi 2 2)),.op 1 (r 39 (.load none 38)),.op 6 (p 44 (.Zi
 1 2)),.op 7 (r 45 (.load none 44)),.op 11 (p 49 (.Zi 2 2)),.op 12 (r 50 (.load none 49)),.op 17 (p 55 (.Zi 3 2)),.op 18 (r 56 (.load none 55)),.op 2 (p 40 (.Za 7)),.op
 3 (p 41 (.bin .mul (.k (.int .i64 5)) 40)),.op 4 (p 42 (.conv .u8 41)),.op 5 (p 43 (.bin .add 39 42)),.op 8 (p 46 (.Za 7)),.op 9 (p 47 (.conv .u8 46)),.op 10 (p 48 (.bin .add
 45 47)),.op 13 (p 51 (.Za 7)),.op 14 (p 52 (.bin .add 51 (.k (.int .i64 1)))),.op 15 (p 53 (.conv .u8 52)),.op 16 (p 54 (.bin .mul 50 53)),.op 19 (p 57 (.Za 7)),.op 20 (p 58
 (.bin .add 57 (.k (.int .i64 1)))),.op 21 (p 59 (.conv .i32 58)),.op 22 (p 60 (.bin .quo 56 59)),.op 23 (p 61 (.build [(.int .u8 0),(.int .u8 0),(.int .u8 0),(.int .i32 0),(.str
 [])] [(0,1,43),(1,1,48),(2,1,54),(3,1,60)])),.op 24 (n 8 (.alloc 465 true [(.int .u8 0),(.int .u8 0),(.int .u8 0),(.int .i32 0),(.str [])])),.op 25 (w0 (.store 5 8
 61))]) (.seq (.Zd [1,2,4,6,7,8]) (.Kv [.op 0 (p 62 (.Zi 2 6)),.op 1 (r 63 (.load none 62)),.op 2 (r 64 (.load (some 5) 8)),.op 3 (p 65 (.Za 1)),.op 4 (w 66 (.call (.k
 (.fn 310 [] [])) [64,65])),.re 1,.op 5 (n 67 (.Qe 451 1 zOb [(0,7,66)])),.op 6 (w 68 (.append 451 7 64 zOb 63 67)),.op 7 (p 69 (.Zi 2 6)),.op 8 (w0 (.store 1 69 68))]))))
 (.seq (.Zd [1,2,4,6,7]) (.Ze [p 36 (.Za 7),p 37 (.bin .add 36 (.k (.int .i64 1))),p 7 (.Za 37)])))))
def K2:Zv:=(.seq (.Zd [1,2,4,9,10]) (.seq (.seq (.Ze [p 78 (.Za 10),p 79 (.Zi 2 2),r 80 (.load none 79),p 81 (.bin .rem 80 (.k (.int .u8 4))),
 p 82 (.conv .i64 81),p 83 (.bin .lss 78 82),p 84 (.Za 83),pg 85 84 true (.Za 10),pg 86 84 true (.Zi 5 9),rg 87 84 true (.load none 86),pg 88 84 true (.bin .lss 85 87),p
 89 (.pick 84 88 (.k (.bool false)))]) (.cond 89 .skip (.exit 3))) (.seq (.Zd [1,2,4,9,10]) (.seq (.block 4 (.seq (.Ze [p 92 (.Zi 2 2),r 93 (.load none 92),p 94 (.Za 10),
 p 95 (.bin .mul (.k (.int .i64 3)) 94),p 96 (.conv .u8 95),p 97 (.bin .add 93 96),p 98 (.Zi 1 2),r 99 (.load none 98),p 100 (.Za 10),p 101 (.conv .u8 100),p 102 (.bin .add
 99 101),p 103 (.Zi 2 2),r 104 (.load none 103),p 105 (.Zi 3 2),r 106 (.load none 105),p 107 (.build [(.int .u8 0),(.int .u8 0),(.int .u8 0),(.int .i32 0),(.str [])] [(0,
 1,97),(1,1,102),(2,1,104),(3,1,106)]),n 11 (.alloc 465 true [(.int .u8 0),(.int .u8 0),(.int .u8 0),(.int .i32 0),(.str [])]),w0 (.store 5 11 107)]) (.seq (.Zd [1,
 2,4,9,10,11]) (.seq (.Kv [.op 0 (p 108 (.Zi 3 9)),.op 1 (r 109 (.load none 108)),.op 2 (p 110 (.Za 10)),.op 3 (r 111 (.Sa 8 8 1 110)),.op 4 (r 112 (.load none 111)),
 .op 5 (w 113 (.call (.k (.fn 398 [] [])) [112])),.re 1,.op 6 (n 114 (.Qe 451 1 zOb [(0,7,113)])),.op 7 (w 115 (.append 451 7 64 zOb 109 114)),.op 8 (p 116 (.Zi 3 9)),
 .op 9 (w0 (.store 1 116 115))]) (.seq (.Zd [1,2,4,9,10,11]) (.Kv [.op 0 (p 117 (.Zi 4 9)),.op 1 (r 118 (.load none 117)),.op 2 (r 119 (.load (some 5) 11)),.op 3 (p 120
 (.Za 1)),.op 4 (w 121 (.call (.k (.fn 310 [] [])) [119,120])),.re 1,.op 5 (n 122 (.Qe 451 1 zOb [(0,7,121)])),.op 6 (w 123 (.append 451 7 64 zOb 118 122)),.op 7 (p 124
 (.Zi 4 9)),.op 8 (w0 (.store 1 124 123))])))))) (.seq (.Zd [1,2,4,9,10]) (.Ze [p 90 (.Za 10),p 91 (.bin .add 90 (.k (.int .i64 1))),p 10 (.Za 91)]))))))
def Q8:Qa:=⟨2,[.cell 4 (some 7)],(.seq (.Ze [n 2 (.box 465 true 0),n 4 (.alloc 486 true zCe)]) (.seq (.Ze [p 12 (.Zi 4 2),r 13 (.load none 12),p 14
 (.Zi 4 2),r 15 (.load none 14),p 16 (.lenOf true 15),p 17 (.Bl false [16,(.k (.int .i64 40))]),p 18 (.B5 13 none (some 17)),p 5 (.Za 18)]) (.seq (.Zd [1,2,4,5])
 (.seq (.seq (.Ze [p 19 (.Zi 0 2),r 20 (.load none 19),p 21 (.bin .rem 20 (.k (.int .u8 5)))]) (.block 0 (.seq (.seq (.Ze [p 23 (.bin .eql 21 (.k (.int .u8 0))),p 22 (.Za 23)])
 (.cond 22 .skip (.Ze [p 24 (.bin .eql 21 (.k (.int .u8 1))),p 22 (.Za 24)]))) (.cond 22 (.seq (.Ze [p 25 (.Za 5),p 26 (.build zCe [(0,1,(.k (.int .i64 1))),(1,1,25)]),w0
 (.store 7 4 26)]) .ret) (.seq (.Ze [p 28 (.bin .eql 21 (.k (.int .u8 2))),p 27 (.Za 28)]) (.cond 27 (.seq (.Ze [p 29 (.build zCe [(0,1,(.k (.int .i64 2)))]),n 6 (.alloc 486 true
 zCe),w0 (.store 7 6 29)]) (.seq (.seq (.Ze [p 7 (.Za (.k (.int .i64 0)))]) (.block 1 (.loop Vr))) (.seq (.Zd [4,6]) (.seq (.Ze [r 70 (.load (some 7) 6),
 w0 (.store 7 4 70)]) .ret)))) (.seq (.Ze [p 72 (.bin .eql 21 (.k (.int .u8 3))),p 71 (.Za 72)]) (.cond 71 (.seq (.Ze [p 73 (.Zi 1 2),r 74 (.load none 73),p 75 (.bin .rem 74
 (.k (.int .u8 6))),p 76 (.conv .i64 75),w 77 (.call (.k (.fn 397 [] [])) [76]),n 9 (.alloc 486 true zCe),w0 (.store 7 9 77)]) (.seq (.seq (.Ze [p 10 (.Za (.k (.int .i64 0)))])
 (.block 3 (.loop K2))) (.seq (.Zd [4,9]) (.seq (.Ze [r 125 (.load (some 7) 9),w0 (.store 7 4 125)]) .ret)))) .skip)))))))) (.seq (.Zd [2,4,5]) (.seq (.Kv
 [.op 1 (p 127 (.Zi 1 2)),.op 2 (r 128 (.load none 127)),.op 8 (p 134 (.Zi 2 2)),.op 9 (r 135 (.load none 134)),.op 0 (p 126 (.Za 5)),.op 3 (p 129 (.conv .i64 128)),.op
 4 (p 130 (.Za 5)),.op 5 (p 131 (.lenOf true 130)),.op 6 (p 132 (.bin .add 131 (.k (.int .i64 1)))),.op 7 (p 133 (.bin .rem 129 132)),.op 10 (p 136 (.bin .rem 135 (.k (.int .u8
 2)))),.op 11 (p 137 (.conv .i64 136)),.op 12 (p 138 (.build zCe [(0,1,(.k (.int .i64 4))),(1,1,126),(6,1,133),(5,1,137)])),.op 13 (w0 (.store 7 4 138))]) .ret))))))⟩
def U7:Qa:=⟨4,[.cell 8 (some 7)],(.seq (.Ze [n 7 (.box 465 true 3),n 8 (.alloc 451 true zOb)]) (.seq (.Ze [p 11 (.Za 0),p 12 (.Za 2),p 13 (.Zi 1 7),r
 14 (.load none 13),p 15 (.conv .i64 14),w 16 (.call (.k (.fn 375 [] [])) [11,12,15]),p 9 (.Za 16)]) (.seq (.seq (.Ze [p 17 (.Za 9),p 18 (.bin .lss 17 (.k (.int .i64 0)))])
 (.cond 18 (.seq (.Ze [p 19 (.Zi 1 7),r 20 (.load none 19),p 21 (.conv .i64 20),p 22 (.build zOb [(0,1,(.k (.int .i64 3))),(2,1,21)]),w0 (.store 7 8 22)]) .ret) .skip))
 (.seq (.Ze [p 23 (.Za 1),p 24 (.Zi 3 7),r 25 (.load none 24),p 26 (.bin .rem 25 (.k (.int .i32 5))),p 27 (.bin .eql 26 (.k (.int .i32 3))),p 28 (.Za 9),p 29 (.build zOb
 [(0,1,23),(1,1,27),(4,1,28)]),n 10 (.alloc 451 true zOb),w0 (.store 7 10 29)]) (.seq (.Zd [0,2,7,8,9,10]) (.seq (.seq (.Ze [p 30 (.Za 2),p 31 (.bin .eql 30 (.k (.int
 .i64 3))),p 32 (.Za 31),pg 33 32 false (.Za 2),pg 34 32 false (.bin .eql 33 (.k (.int .i64 4))),p 35 (.pick 32 (.k (.bool true)) 34)]) (.cond 35 (.seq (.Ze [r 36 (.load (some
 7) 10),w0 (.store 7 8 36)]) .ret) .skip)) (.seq (.Zd [0,7,8,9,10]) (.seq (.Kv [.op 0 (p 37 (.Za 0)),.op 1 (p 38 (.Za 9)),.op 2 (p 39 (.Zu 7 37 38)),.op 3 (p 40 (.Zi
 1 39)),.op 4 (r 41 (.load none 40)),.op 6 (p 43 (.Za 0)),.op 7 (p 44 (.Za 9)),.op 8 (p 45 (.Zu 7 43 44)),.op 9 (p 46 (.Zi 2 45)),.op 10 (r 47 (.load none 46)),.op 5
 (p 42 (.lenOf true 41)),.op 11 (p 48 (.lenOf false 47)),.op 12 (p 49 (.bin .add 42 48)),.op 13 (p 50 (.Zi 6 10)),.op 14 (w0 (.store 1 50 49))]) (.seq (.Zd [7,8,10]) (.seq
 (.seq (.Ze [p 51 (.Zi 2 7),r 52 (.load none 51),p 53 (.bin .rem 52 (.k (.int .u8 3))),p 54 (.bin .eql 53 (.k (.int .u8 2)))]) (.cond 54 (.seq (.Ze [p 55 (.Zi 2 7),r 56 (.load
 none 55),p 57 (.conv .i64 56),p 58 (.Zi 6 10),r 59 (.load none 58),p 60 (.bin .add 59 (.k (.int .i64 1))),p 61 (.bin .rem 57 60),p 62 (.Zi 5 10),w0 (.store 1 62 61)]) (.seq
 (.Zd [7,8,10]) (.Ze [p 63 (.Zi 2 7),r 64 (.load none 63),p 65 (.conv .i64 64),p 66 (.bin .quo 65 (.k (.int .i64 3))),p 67 (.Zi 6 10),r 68 (.load none 67),p 69 (.Zi
 5 10),r 70 (.load none 69),p 71 (.bin .sub 68 70),p 72 (.bin .add 71 (.k (.int .i64 1))),p 73 (.bin .rem 66 72),p 74 (.Zi 6 10),w0 (.store 1 74 73)]))) .skip)) (.seq (.Zd
 [8,10]) (.seq (.Ze [r 75 (.load (some 7) 10),w0 (.store 7 8 75)]) .ret))))))))))))⟩
def Kc:Qa:=⟨2,[.t 4,.t 5],(.seq (.Ze [n 3 (.box 451 true 1),p 4 (.Za (.k (.str []))),p 5 (.Za (.k (.int .i64 0)))]) (.seq (.Ze [p 9 (.Za 0),r 10 (.load (some
 7) 3),n 11 (.Qe 3 1 [(.int .i64 0)] [(0,1,(.k (.int .i64 6)))]),w 12 (.call (.k (.fn 400 [] [])) [9,10,11]),p 8 (.Za 12),p 13 (.Zq 0 8),p 14 (.Zq 1 8),n 6 (.alloc
 554 true [.Zc,(.int .i64 0),(.bool false),(.int .i64 0),(.str []),(.int .i64 0),(.int .i64 0),(.int .i64 0)]),w0 (.store 8 6 13),p 7 (.Za 14)]) (.seq (.Zd [3,6,7])
 (.seq (.seq (.Ze [p 15 (.Za 7),p 16 (.bin .neq 15 (.k (.int .i64 0)))]) (.cond 16 (.seq (.Ze [p 17 (.Za 7),p 4 (.Za (.k (.str []))),p 5 (.Za 17)]) .ret) .skip)) (.seq (.Kv
 [.op 0 (r 18 (.load (some 8) 6)),.op 3 (p 21 (.Zi 5 3)),.op 4 (r 22 (.load none 21)),.op 5 (p 23 (.Zi 5 3)),.op 6 (r 24 (.load none 23)),.op 7 (p 25 (.Zi 6 3)),.op 8
 (r 26 (.load none 25)),.op 1 (w 19 (.call (.k (.fn 401 [] [])) [18])),.re 4,.re 6,.re 8,.op 2 (p 20 (.field 1 none 19)),.op 9 (p 27 (.bin .add 24 26)),.op 10 (p 28 (.B5 20
 (some 22) (some 27))),.op 11 (p 4 (.Za 28)),.op 12 (p 5 (.Za (.k (.int .i64 0))))]) .ret)))))⟩
def Jl:Zv:=(.seq (.Zd [0,1,12,13]) (.seq (.Ze [p 14 (.bin .lss 13 12)]) (.seq (.cond 14 .skip (.exit 0)) (.seq (.block 1 (.seq (.Ze [p 15
 (.Za 13),p 5 (.Za 15)]) (.seq (.Kv [.op 0 (p 16 (.Za 0)),.op 1 (p 17 (.Za 5)),.op 2 (p 18 (.Zu 7 16 17)),.op 3 (r 19 (.load (some 7) 18)),.op 4 (p 20 (.Za 1)),.op 5
 (p 21 (.Za 5)),.op 6 (p 22 (.Zu 7 20 21)),.op 7 (r 23 (.load (some 7) 22)),.op 8 (p 24 (.eqA true [(.i .i64),.b,(.i .i64),.s,(.i .i64),(.i .i64),(.i .i64)] 19 23))]) (.seq
 (.Zd [0,1,12,13,24]) (.cond 24 (.seq (.Ze [p 4 (.Za (.k (.bool false)))]) .ret) .skip))))) (.seq (.Zd [0,1,12,13]) (.Ze [p 25 (.bin .add 13 (.k (.int .i64 1))),p 13 (.Za
 25)]))))))
def Q2:Qa:=⟨2,[.t 4],(.seq (.Ze [p 4 (.Za (.k (.bool false)))]) (.seq (.seq (.Ze [p 6 (.Za 0),p 7 (.lenOf false 6),p 8 (.Za 1),p 9 (.lenOf
 false 8),p 10 (.bin .neq 7 9)]) (.cond 10 (.seq (.Ze [p 4 (.Za (.k (.bool false)))]) .ret) .skip)) (.seq (.seq (.Ze [p 11 (.Za 0),p 12 (.lenOf false 11),p 13 (.Za (.k (.int
 .i64 0)))]) (.block 0 (.loop Jl))) (.seq (.Zd []) (.seq (.Ze [p 4 (.Za (.k (.bool true)))]) .ret)))))⟩
def Xu:Zv:=(.seq (.Zd [0,1,5]) (.seq (.seq (.Ze [p 11 (.Za 5),p 12 (.Za 0),p 13 (.lenOf false 12),p 14 (.bin .lss 11 13)]) (.cond 14 .skip (.exit 0)))
 (.seq (.block 1 (.seq (.Kv [.op 0 (p 17 (.Za 0)),.op 1 (p 18 (.Za 5)),.op 2 (p 19 (.Zu 7 17 18)),.op 3 (r 20 (.load (some 7) 19)),.op 4 (p 21 (.Za 1)),.op 5 (p 22 (.Za
 5)),.op 6 (p 23 (.Zu 7 21 22)),.op 7 (r 24 (.load (some 7) 23)),.op 8 (w 25 (.call (.k (.fn 402 [] [])) [20,24])),.op 9 (p 26 (.un .not 25))]) (.seq (.Zd [0,1,5,26]) (.cond
 26 (.seq (.Ze [p 4 (.Za (.k (.bool false)))]) .ret) .skip)))) (.seq (.Zd [0,1,5]) (.Ze [p 15 (.Za 5),p 16 (.bin .add 15 (.k (.int .i64 1))),p 5 (.Za 16)])))))
def V1:Qa:=⟨2,[.t 4],(.seq (.Ze [p 4 (.Za (.k (.bool false)))]) (.seq (.seq (.Ze [p 6 (.Za 0),p 7 (.lenOf false 6),p 8 (.Za 1),p 9 (.lenOf false 8),p 10
 (.bin .neq 7 9)]) (.cond 10 (.seq (.Ze [p 4 (.Za (.k (.bool false)))]) .ret) .skip)) (.seq (.seq (.Ze [p 5 (.Za (.k (.int .i64 0)))]) (.block 0 (.loop Xu))) (.seq
 (.Zd []) (.seq (.Ze [p 4 (.Za (.k (.bool true)))]) .ret)))))⟩
def Yj:Zv:=(.seq (.Zd [0,1,5]) (.seq (.seq (.Ze [p 11 (.Za 5),p 12 (.Za 0),p 13 (.lenOf false 12),p 14 (.bin .lss 11 13)]) (.cond 14 .skip (.exit
 0))) (.seq (.block 1 (.seq (.Kv [.op 0 (p 17 (.Za 0)),.op 1 (p 18 (.Za 5)),.op 2 (p 19 (.Zu 7 17 18)),.op 3 (r 20 (.load (some 7) 19)),.op 4 (p 21 (.Za 1)),.op 5 (p 22
 (.Za 5)),.op 6 (p 23 (.Zu 7 21 22)),.op 7 (r 24 (.load (some 7) 23)),.op 8 (p 25 (.eqA true [(.i .i64),.b,(.i .i64),.s,(.i .i64),(.i .i64),(.i .i64)] 20 24))]) (.seq (.Zd
 [0,1,5,25]) (.cond 25 (.seq (.Ze [p 4 (.Za (.k (.bool false)))]) .ret) .skip)))) (.seq (.Zd [0,1,5]) (.Ze [p 15 (.Za 5),p 16 (.bin .add 15 (.k (.int .i64 1))),p 5 (.Za
 16)])))))
def Jo:Qa:=⟨2,[.t 4],(.seq (.Ze [p 4 (.Za (.k (.bool false)))]) (.seq (.seq (.Ze [p 6 (.Za 0),p 7 (.lenOf false 6),p 8 (.Za 1),p 9 (.lenOf false 8),
 p 10 (.bin .neq 7 9)]) (.cond 10 (.seq (.Ze [p 4 (.Za (.k (.bool false)))]) .ret) .skip)) (.seq (.seq (.Ze [p 5 (.Za (.k (.int .i64 0)))]) (.block 0 (.loop Yj)))
 (.seq (.Zd []) (.seq (.Ze [p 4 (.Za (.k (.bool true)))]) .ret)))))⟩
def Xx:Qa:=⟨2,[.t 4],(.seq (.Ze [n 3 (.box 451 true 1),p 4 (.Za (.k (.str [])))]) (.seq (.Ze [p 5 (.Zi 3 3),r 6 (.load none 5),p 4 (.Za 6)]) .ret))⟩
def M6:Qa:=⟨2,[.t 4],(.seq (.Ze [n 3 (.box 451 true 1),p 4 (.Za (.k (.str [])))]) (.seq (.Ze [p 5 (.Zi 2 3),r 6 (.load none 5),p 7 (.bin .eql 6 (.k (.int
 .i64 1))),w 8 (.call (.k (.fn 403 [] [])) [7]),p 4 (.Za 8)]) .ret))⟩
def M7:Qa:=⟨2,[.t 4],(.seq (.Ze [n 3 (.box 451 true 1),p 4 (.Za (.k (.str [])))]) (.seq (.Ze [p 5 (.Zi 2 3),r 6 (.load none 5),w 7 (.call (.k (.fn 132 []
 [])) [6]),p 4 (.Za 7)]) .ret))⟩
def M8:Qa:=⟨2,[.t 4],(.seq (.Ze [n 3 (.box 451 true 1),p 4 (.Za (.k (.str [])))]) (.seq (.Ze [p 5 (.Zi 2 3),r 6 (.load none 5),w 7 (.call (.k (.fn 404 []
 [])) [6]),p 4 (.Za 7)]) .ret))⟩
def M9:Qa:=⟨2,[.t 4],(.seq (.Ze [n 3 (.box 451 true 1),p 4 (.Za (.k (.str [])))]) (.seq (.Ze [p 8 (.Za 0),r 9 (.load (some 7) 3),w 10 (.call (.k (.fn 357 []
 [])) [8,9]),p 7 (.Za 10),p 11 (.Zq 0 7),p 12 (.Zq 1 7),p 5 (.Za 11),p 6 (.Za 12)]) (.seq (.Zd [5]) (.seq (.Ze [p 13 (.Za 5),p 4 (.Za 13)]) .ret))))⟩
def Ur:Zv:=(.seq (.Zd [0,1,2,7,8]) (.seq (.seq (.Ze [p 9 (.Za 8),p 10 (.Za 0),p 11 (.lenOf false 10),p 12 (.bin .lss 9 11)]) (.cond 12 .skip (.exit
 0))) (.seq (.block 1 (.seq (.Ze [p 15 (.Za 0),p 16 (.Za 8),p 17 (.Zu 7 15 16),p 18 (.Zi 0 17),r 19 (.load none 18),p 20 (.Za 1),p 21 (.bin .eql 19 20)]) (.cond 21 (.Ze
 [p 22 (.Za 7),p 23 (.Za 8),n 24 (.Qe 3 1 [(.int .i64 0)] [(0,1,23)]),w 25 (.append 3 1 8 [(.int .i64 0)] 22 24),p 7 (.Za 25)]) .skip))) (.seq (.Zd [0,1,2,7,8]) (.Ze
 [p 13 (.Za 8),p 14 (.bin .add 13 (.k (.int .i64 1))),p 8 (.Za 14)])))))
def U8:Qa:=⟨3,[.t 6],(.seq (.Ze [p 6 (.Za (.k (.int .i64 0)))]) (.seq (.Ze [p 7 (.Za (.k .Zc))]) (.seq (.seq (.Ze [p 8 (.Za (.k (.int .i64 0)))]) (.block
 0 (.loop Ur))) (.seq (.Zd [2,7]) (.seq (.seq (.Ze [p 26 (.Za 7),p 27 (.lenOf false 26),p 28 (.bin .eql 27 (.k (.int .i64 0)))]) (.cond 28 (.seq (.Ze [p 6 (.Za
 (.k (.int .i64 (-1))))]) .ret) .skip)) (.seq (.Ze [p 29 (.Za 7),p 30 (.Za 2),p 31 (.Za 7),p 32 (.lenOf false 31),p 33 (.bin .rem 30 32),p 34 (.Zu 1 29 33),r 35 (.load
 none 34),p 6 (.Za 35)]) .ret))))))⟩
def Va:Qa:=⟨2,[.t 4],(.seq (.Ze [n 2 (.box 532 true 0),n 3 (.box 451 true 1),p 4 (.Za (.k (.bool false)))]) (.seq (.Ze [p 5 (.Zi 2 3),r 6 (.load none
 5),p 7 (.Zi 1 2),r 8 (.load none 7),p 9 (.bin .geq 6 8),p 10 (.Za 9),pg 11 10 true (.Zi 2 3),rg 12 10 true (.load none 11),pg 13 10 true (.Zi 2 2),rg 14 10 true (.load
 none 13),pg 15 10 true (.bin .leq 12 14),p 16 (.pick 10 15 (.k (.bool false))),p 4 (.Za 16)]) .ret))⟩
def Vw:Qa:=⟨2,[.t 4],(.seq (.Ze [n 2 (.box 532 true 0),n 3 (.box 451 true 1),p 4 (.Za (.k (.bool false)))]) (.seq (.Ze [p 5 (.Zi 3 3),r 6 (.load none
 5),p 7 (.lenOf true 6),p 8 (.Zi 3 2),r 9 (.load none 8),p 10 (.bin .geq 7 9),p 11 (.Za 10),pg 12 11 true (.Zi 3 3),rg 13 11 true (.load none 12),pg 14 11 true (.lenOf
 true 13),pg 15 11 true (.Zi 4 2),rg 16 11 true (.load none 15),pg 17 11 true (.bin .leq 14 16),p 18 (.pick 11 17 (.k (.bool false))),p 4 (.Za 18)]) .ret))⟩
def J4:Qa:=⟨2,[.t 4],(.seq (.Ze [n 2 (.box 532 true 0),n 3 (.box 451 true 1),p 4 (.Za (.k (.bool false)))]) (.seq (.seq (.Ze [p 6 (.Zi 5 2),r 7 (.load
 none 6),p 8 (.bin .eql 7 (.k (.int .i64 0)))]) (.cond 8 (.seq (.Ze [p 9 (.Zi 4 3),r 10 (.load none 9),p 11 (.bin .eql 10 (.k (.int .i64 0))),p 12 (.Za 11),pg 13 12 true (.Zi
 5 3),rg 14 12 true (.load none 13),pg 15 12 true (.bin .eql 14 (.k (.int .i64 0))),p 16 (.pick 12 15 (.k (.bool false))),p 17 (.Za 16),pg 18 17 true (.Zi 6 3),rg 19 17 true
 (.load none 18),pg 20 17 true (.bin .eql 19 (.k (.int .i64 0))),p 21 (.pick 17 20 (.k (.bool false))),p 4 (.Za 21)]) .ret) .skip)) (.seq (.Zd [2,3]) (.seq (.Ze [r 22 (.load
 (some 6) 2),w 23 (.call (.k (.fn 417 [] [])) [22]),p 5 (.Za 23)]) (.seq (.Ze [p 24 (.Zi 4 3),r 25 (.load none 24),p 26 (.bin .geq 25 (.k (.int .i64 0))),p 27 (.Za 26),pg
 28 27 true (.Zi 4 3),rg 29 27 true (.load none 28),pg 30 27 true (.bin .leq 29 (.k (.int .i64 20000))),p 31 (.pick 27 30 (.k (.bool false))),p 32 (.Za 31),pg 33 32 true (.Zi
 5 3),rg 34 32 true (.load none 33),pg 35 32 true (.bin .geq 34 (.k (.int .i64 0))),p 36 (.pick 32 35 (.k (.bool false))),p 37 (.Za 36),pg 38 37 true (.Zi 6 3),rg 39 37 true
 (.load none 38),pg 40 37 true (.bin .geq 39 (.k (.int .i64 0))),p 41 (.pick 37 40 (.k (.bool false))),p 42 (.Za 41),pg 43 42 true (.Zi 5 3),rg 44 42 true (.load none 43),pg
 45 42 true (.Za 5),pg 46 42 true (.bin .leq 44 45),p 47 (.pick 42 46 (.k (.bool false))),p 48 (.Za 47),pg 49 48 true (.Zi 6 3),rg 50 48 true (.load none 49),pg 51 48 true
 (.Za 5),pg 52 48 true (.Zi 5 3),rg 53 48 true (.load none 52),pg 54 48 true (.bin .sub 51 53),pg 55 48 true (.bin .leq 50 54),p 56 (.pick 48 55 (.k (.bool false))),p 4 (.Za
 56)]) .ret)))))⟩
def Vv:Zv:=(.seq (.Zd [1,6,7,21,22,23]) (.seq (.Ze [p 24 (.bin .lss 23 22)]) (.seq (.cond 24 .skip (.exit 0)) (.seq (.block 1 (.seq (.Ze [p 25 (.Za
 23),p 26 (.Zu 7 21 23),r 27 (.load (some 7) 26),n 9 (.alloc 451 true zOb),p 8 (.Za 25),w0 (.store 7 9 27)]) (.seq (.Kv [.op 0 (p 28 (.Za 1)),.op 1 (p 29 (.Za 8)),.op
 2 (p 30 (.Zu 1 28 29)),.op 3 (r 31 (.load none 30)),.op 4 (p 32 (.Zi 0 9)),.op 5 (r 33 (.load none 32)),.op 6 (w 34 (.call (.k (.fn 383 [] [])) [31,33])),.op 7 (p 35 (.un
 .not 34))]) (.seq (.Zd [1,6,7,21,22,23,35]) (.cond 35 (.seq (.Ze [p 7 (.Za (.k (.int .i64 22)))]) (.exit 0)) .skip))))) (.seq (.Zd [1,6,7,21,22,23]) (.Ze [p 36 (.bin
 .add 23 (.k (.int .i64 1))),p 23 (.Za 36)]))))))
def Zy:Qa:=⟨2,[.t 4,.t 5],(.seq (.Ze [n 2 (.box 493 true 0),p 4 (.Za (.k .Zc)),p 5 (.Za (.k (.int .i64 0)))]) (.scope (.seq (.Ze [p 11 (.Zi
 0 2),r 12 (.load (some 67) 11),p 13 (.Za 1),p 14 (.lenOf false 13),w 15 (.call (.k (.fn 418 [] [])) [12,14]),p 10 (.Za 15),p 16 (.Zq 0 10),p 17 (.Zq 1 10),p 6 (.Za 16),
 p 7 (.Za 17)]) (.seq (.Zd [1,6,7]) (.seq (.seq (.Ze [p 18 (.Za 7),p 19 (.bin .neq 18 (.k (.int .i64 0)))]) (.cond 19 (.seq (.Ze [p 20 (.Za 7),p 4 (.Za (.k .Zc)),p
 5 (.Za 20)]) .ret) .skip)) (.seq .skip (.seq (.seq (.Ze [p 21 (.Za 6),p 22 (.lenOf false 21),p 23 (.Za (.k (.int .i64 0)))]) (.block 0 (.loop Vv))) (.seq
 (.Zd [6,7]) (.seq (.seq (.Ze [p 37 (.Za 7),p 38 (.bin .neq 37 (.k (.int .i64 0)))]) (.cond 38 (.seq (.Ze [p 39 (.Za 7),p 4 (.Za (.k .Zc)),p 5 (.Za 39)]) .ret) .skip))
 (.seq (.Ze [p 40 (.Za 6),p 4 (.Za 40),p 5 (.Za (.k (.int .i64 0)))]) .ret))))))))))⟩
def Qc:Qa:=⟨2,[.t 4],(.seq (.Ze [p 4 (.Za (.k (.bool false)))]) (.seq (.Ze [p 6 (.Za 1),p 7 (.bin .eql 6 (.k (.int .i64 3))),p 8 (.Za 7),pg 9 8 false (.Za
 1),pg 10 8 false (.bin .eql 9 (.k (.int .i64 4))),p 11 (.pick 8 (.k (.bool true)) 10),p 5 (.Za 11)]) (.seq (.seq (.Ze [p 12 (.Za 0)]) (.block 0 (.seq (.Ze [p 14 (.bin .eql 12
 (.k (.int .i64 0))),p 13 (.Za 14)]) (.cond 13 (.seq (.Ze [p 4 (.Za (.k (.bool true)))]) .ret) (.seq (.Ze [p 16 (.bin .eql 12 (.k (.int .i64 1))),p 15 (.Za 16)]) (.cond 15 (.seq
 (.Ze [p 17 (.Za 5),p 4 (.Za 17)]) .ret) (.seq (.Ze [p 19 (.bin .eql 12 (.k (.int .i64 2))),p 18 (.Za 19)]) (.cond 18 (.seq (.Ze [p 20 (.Za 1),p 21 (.bin .eql 20 (.k (.int
 .i64 6))),p 4 (.Za 21)]) .ret) (.seq (.Ze [p 23 (.bin .eql 12 (.k (.int .i64 3))),p 22 (.Za 23)]) (.cond 22 (.seq (.Ze [p 24 (.Za 1),p 25 (.bin .eql 24 (.k (.int .i64 2))),
 p 4 (.Za 25)]) .ret) (.seq (.Ze [p 27 (.bin .eql 12 (.k (.int .i64 4))),p 26 (.Za 27)]) (.cond 26 (.seq (.Ze [p 28 (.Za 1),p 29 (.bin .eql 28 (.k (.int .i64 3))),p 4 (.Za 29)])
 .ret) (.seq (.Ze [p 31 (.bin .eql 12 (.k (.int .i64 5))),p 30 (.Za 31)]) (.cond 30 (.seq (.Ze [p 32 (.Za 5),p 33 (.Za 32),pg 34 33 false (.Za 1),pg 35 33 false (.bin .eql
 34 (.k (.int .i64 6))),p 36 (.pick 33 (.k (.bool true)) 35),p 4 (.Za 36)]) .ret) .skip)))))))))))))) (.seq (.Zd [1]) (.seq (.Ze [p 37 (.Za 1),p 38 (.bin .eql 37 (.k (.int .i64
 2))),p 39 (.Za 38),pg 40 39 false (.Za 1),pg 41 39 false (.bin .eql 40 (.k (.int .i64 3))),p 42 (.pick 39 (.k (.bool true)) 41),p 4 (.Za 42)]) .ret)))))⟩
def Vj:Qa:=⟨2,[.t 4,.t 5],(.seq (.Ze [n 2 (.box 451 true 0),n 3 (.box 451 true 1),p 4 (.Za (.k (.int .i64 0))),p 5 (.Za (.k (.int .i64 0)))]) (.seq (.seq
 (.Ze [r 9 (.load (some 7) 2),w 10 (.call (.k (.fn 326 [] [])) [9]),p 11 (.bin .neq 10 (.k (.int .i64 0))),p 12 (.Za 11),rg 13 12 false (.load (some 7) 3),wg 14 12 false (.call
 (.k (.fn 326 [] [])) [13]),pg 15 12 false (.bin .neq 14 (.k (.int .i64 0))),p 16 (.pick 12 (.k (.bool true)) 15)]) (.seq (.Zd [2,3,16]) (.cond 16 (.seq (.Ze [p 4 (.Za (.k (.int
 .i64 0))),p 5 (.Za (.k (.int .i64 200)))]) .ret) .skip))) (.seq (.Zd [2,3]) (.seq (.Ze [r 18 (.load (some 7) 2),w 19 (.call (.k (.fn 391 [] [])) [18]),p 17 (.Za 19),p 20 (.Zq
 0 17),p 21 (.Zq 1 17),p 6 (.Za 20),p 7 (.Za 21)]) (.seq (.seq (.Ze [p 22 (.Za 7),p 23 (.bin .neq 22 (.k (.int .i64 0)))]) (.cond 23 (.seq (.Ze [p 24 (.Za 7),p 4 (.Za (.k
 (.int .i64 0))),p 5 (.Za 24)]) .ret) .skip)) (.seq (.Ze [r 26 (.load (some 7) 3),w 27 (.call (.k (.fn 391 [] [])) [26]),p 25 (.Za 27),p 28 (.Zq 0 25),p 29 (.Zq 1 25),p
 8 (.Za 28),p 7 (.Za 29)]) (.seq (.block 0 (.seq (.Ze [p 31 (.Za 7),p 32 (.bin .neq 31 (.k (.int .i64 0))),p 30 (.Za 32)]) (.cond 30 (.seq (.Ze [p 33 (.Za 7),p 4 (.Za (.k
 (.int .i64 0))),p 5 (.Za 33)]) .ret) (.seq (.Ze [p 35 (.Za 6),p 36 (.Za 8),p 37 (.bin .lss 35 36),p 34 (.Za 37)]) (.cond 34 (.seq (.Ze [p 4 (.Za (.k (.int .i64 (-1)))),p
 5 (.Za (.k (.int .i64 0)))]) .ret) (.seq (.Ze [p 39 (.Za 6),p 40 (.Za 8),p 41 (.bin .gtr 39 40),p 38 (.Za 41)]) (.cond 38 (.seq (.Ze [p 4 (.Za (.k (.int .i64 1))),p 5 (.Za
 (.k (.int .i64 0)))]) .ret) .skip))))))) (.seq (.Zd []) (.seq (.Ze [p 4 (.Za (.k (.int .i64 0))),p 5 (.Za (.k (.int .i64 0)))]) .ret)))))))))⟩
def Zx:Qa:=⟨3,[.cell 6 (some 67),.t 7],(.seq (.Ze [n 3 (.box 493 true 0),n 5 (.box 451 true 2),n 6 (.alloc 457 true Qi),p 7 (.Za (.k (.int .i64 0)))])
 (.seq (.Ze [p 12 (.Zi 0 3),r 13 (.load (some 67) 12),p 14 (.Za 1),w 15 (.call (.k (.fn 419 [] [])) [13,14]),p 11 (.Za 15),p 16 (.Zq 0 11),p 17 (.Zq 1 11),n 8 (.alloc
 457 true Qi),w0 (.store 67 8 16),p 9 (.Za 17)]) (.seq (.Zd [3,5,6,8,9]) (.seq (.seq (.Ze [p 18 (.Za 9),p 19 (.bin .neq 18 (.k (.int .i64 0)))]) (.cond 19 (.seq (.Ze [p
 20 (.Zi 0 3),r 21 (.load (some 67) 20),p 22 (.Za 9),w0 (.store 67 6 21),p 7 (.Za 22)]) .ret) .skip)) (.seq (.Ze [r 24 (.load (some 67) 8),r 25 (.load (some 7) 5),n 26 (.Qe
 451 1 zOb [(0,7,25)]),w 27 (.call (.k (.fn 344 [] [])) [24,26]),p 23 (.Za 27),p 28 (.Zq 0 23),p 29 (.Zq 1 23),n 10 (.alloc 457 true Qi),w0 (.store 67 10 28),p 9 (.Za
 29)]) (.seq (.Zd [3,6,9,10]) (.seq (.seq (.Ze [p 30 (.Za 9),p 31 (.bin .neq 30 (.k (.int .i64 0)))]) (.cond 31 (.seq (.Ze [p 32 (.Zi 0 3),r 33 (.load (some 67) 32),p 34
 (.Za 9),w0 (.store 67 6 33),p 7 (.Za 34)]) .ret) .skip)) (.seq (.Ze [r 35 (.load (some 67) 10),w0 (.store 67 6 35),p 7 (.Za (.k (.int .i64 0)))]) .ret))))))))⟩
def Hi:Qa:=⟨3,[.t 6],(.seq (.Ze [n 4 (.box 451 true 1),n 5 (.box 451 true 2),p 6 (.Za (.k (.bool false)))]) (.seq (.seq (.Ze [p 13 (.Za 0),r 14 (.load (some 7)
 4),w 15 (.call (.k (.fn 304 [] [])) [13,14]),p 16 (.un .not 15),p 17 (.Za 16),pg 18 17 false (.Za 0),rg 19 17 false (.load (some 7) 5),wg 20 17 false (.call (.k (.fn 304 []
 [])) [18,19]),pg 21 17 false (.un .not 20),p 22 (.pick 17 (.k (.bool true)) 21)]) (.seq (.Zd [0,4,5,22]) (.cond 22 (.seq (.Ze [p 6 (.Za (.k (.bool false)))]) .ret) .skip)))
 (.seq (.Zd [0,4,5]) (.seq (.seq (.Ze [r 24 (.load (some 7) 4),r 25 (.load (some 7) 5),w 26 (.call (.k (.fn 385 [] [])) [24,25]),p 23 (.Za 26),p 27 (.Zq 0 23),p 28 (.Zq
 1 23),p 7 (.Za 27),p 8 (.Za 28)]) (.seq (.Zd [0,4,5,7,8]) (.seq (.Ze [p 29 (.Za 8),p 30 (.bin .eql 29 (.k (.int .i64 0)))]) (.cond 30 (.seq (.Ze [p 31 (.Za 7),p 32 (.bin
 .eql 31 (.k (.int .i64 0))),p 6 (.Za 32)]) .ret) .skip)))) (.seq (.Zd [0,4,5]) (.seq (.Ze [p 34 (.Za 0),r 35 (.load (some 7) 4),w 36 (.call (.k (.fn 420 [] [])) [34,35]),
 p 33 (.Za 36),p 37 (.Zq 0 33),p 38 (.Zq 1 33),p 9 (.Za 37),p 10 (.Za 38)]) (.seq (.Zd [0,4,5,9,10]) (.seq (.Ze [p 40 (.Za 0),r 41 (.load (some 7) 5),w 42 (.call
 (.k (.fn 420 [] [])) [40,41]),p 39 (.Za 42),p 43 (.Zq 0 39),p 44 (.Zq 1 39),p 11 (.Za 43),p 12 (.Za 44)]) (.seq (.Zd [4,5,9,10,11,12]) (.seq (.seq (.Ze [p 45 (.Za
 10),p 46 (.Za 45),pg 47 46 true (.Za 12),p 48 (.pick 46 47 (.k (.bool false)))]) (.cond 48 (.seq (.Ze [p 49 (.Za 9),p 50 (.Za 11),p 51 (.bin .eql 49 50),p 6 (.Za 51)]) .ret)
 .skip)) (.seq (.Zd [4,5]) (.seq (.Ze [p 52 (.Zi 1 5),r 53 (.load none 52),p 54 (.Zi 1 4),w0 (.store 1 54 53)]) (.seq (.Ze [r 55 (.load (some 7) 4),r 56 (.load (some 7)
 5),p 57 (.eqA false [(.i .i64),.b,(.i .i64),.s,(.i .i64),(.i .i64),(.i .i64)] 55 56),p 6 (.Za 57)]) .ret)))))))))))))⟩
def Xl:Qa:=⟨2,[.cell 4 (some 7),.t 5],(.seq (.Ze [n 3 (.box 4 true 1),n 4 (.alloc 451 true zOb),p 5 (.Za (.k (.int .i64 0)))]) (.seq (.Ze [p 6 (.Za 0),p 7 (.Pz
 421 [] [3]),w 8 (.call (.k (.fn 422 [] [])) [6,7]),p 9 (.Zq 0 8),p 10 (.Zq 1 8),w0 (.store 7 4 9),p 5 (.Za 10)]) .ret))⟩
def Kz:Qa:=⟨2,[.cell 3 (some 7),.t 4],(.seq (.Ze [n 2 (.box 451 true 0),n 3 (.alloc 451 true zOb),p 4 (.Za (.k (.int .i64 0)))]) (.seq (.Ze [r 5 (.load
 none 1),p 6 (.Zi 1 2),w0 (.store 1 6 5)]) (.seq (.Ze [r 7 (.load (some 7) 2),w0 (.store 7 3 7),p 4 (.Za (.k (.int .i64 0)))]) .ret)))⟩
def Jh:Qa:=⟨3,[.cell 4 (some 7),.t 5],(.seq (.Ze [n 3 (.box 451 true 0),n 4 (.alloc 451 true zOb),p 5 (.Za (.k (.int .i64 0)))]) (.seq (.Ze [r 10
 (.load (some 67) 1),r 11 (.load (some 7) 3),w 12 (.call (.k (.fn 423 [] [])) [10,11]),p 9 (.Za 12),p 13 (.Zq 0 9),p 14 (.Zq 1 9),n 6 (.alloc 451 true zOb),w0 (.store 7
 6 13),p 7 (.Za 14)]) (.seq (.Zd [2,4,6,7]) (.seq (.seq (.Ze [p 15 (.Za 7),p 16 (.bin .neq 15 (.k (.int .i64 0)))]) (.cond 16 (.seq (.Ze [p 17 (.build zOb []),p 18 (.Za
 7),w0 (.store 7 4 17),p 5 (.Za 18)]) .ret) .skip)) (.seq (.Ze [r 20 (.load none 2),r 21 (.load (some 7) 6),w 22 (.call 20 [21]),p 19 (.Za 22),p 23 (.Zq 0 19),p 24 (.Zq
 1 19),n 8 (.alloc 451 true zOb),w0 (.store 7 8 23),p 7 (.Za 24)]) (.seq (.Zd [4,7,8]) (.seq (.Ze [r 25 (.load (some 7) 8),p 26 (.Za 7),w0 (.store 7 4 25),p 5 (.Za 26)])
 .ret)))))))⟩
def Yp:Qa:=⟨1,[.t 2,.t 3],(.seq (.Ze [n 1 (.box 451 true 0),p 2 (.Za (.k (.int .i64 0))),p 3 (.Za (.k (.int .i64 0)))]) (.seq (.Ze [r 7 (.load (some 7) 1),
 w 8 (.call (.k (.fn 424 [] [])) [7]),p 6 (.Za 8),p 9 (.Zq 0 6),p 10 (.Zq 1 6),n 4 (.alloc 569 true zOb),w0 (.store 7 4 9),p 5 (.Za 10)]) (.seq (.Zd [4,5]) (.seq (.seq
 (.Ze [p 11 (.Za 5),p 12 (.bin .neq 11 (.k (.int .i64 0)))]) (.cond 12 (.seq (.Ze [p 13 (.Za 5),p 2 (.Za (.k (.int .i64 0))),p 3 (.Za 13)]) .ret) .skip)) (.seq (.Ze [r 14 (.load
 (some 7) 4),w 15 (.call (.k (.fn 425 [] [])) [14]),p 2 (.Za 15),p 3 (.Za (.k (.int .i64 0)))]) .ret)))))⟩
def Mu:Qa:=⟨1,[.cell 2 (some 7),.t 3],(.seq (.Ze [n 2 (.alloc 451 true zOb),p 3 (.Za (.k (.int .i64 0)))]) (.seq (.Ze [p 4 (.Za 0),w 5 (.call (.k (.fn 426 []
 [])) [4,(.k (.fn 427 [] []))]),p 6 (.Zq 0 5),p 7 (.Zq 1 5),w0 (.store 7 2 6),p 3 (.Za 7)]) .ret))⟩
def Xm:Qa:=⟨1,[.cell 2 (some 7),.t 3],(.seq (.Ze [n 2 (.alloc 451 true zOb),p 3 (.Za (.k (.int .i64 0)))]) (.seq (.Ze [p 4 (.Za 0),w 5 (.call (.k (.fn 426 []
 [])) [4,(.k (.fn 428 [] []))]),p 6 (.Zq 0 5),p 7 (.Zq 1 5),w0 (.store 7 2 6),p 3 (.Za 7)]) .ret))⟩
def Kx:Qa:=⟨4,[.cell 8 (some 67),.t 9],(.seq (.Ze [n 4 (.box 493 true 0),n 7 (.box 451 true 3),n 8 (.alloc 457 true Qi),p 9 (.Za (.k (.int .i64 0)))]) (.seq
 (.Ze [r 15 (.load (some 7) 7),p 16 (.Za 2),p 17 (.lenOf true 16),w 18 (.call (.k (.fn 429 [] [])) [15,(.k (.int .i64 0)),17]),p 14 (.Za 18),p 19 (.Zq 0 14),p 20 (.Zq
 1 14),n 10 (.alloc 451 true zOb),w0 (.store 7 10 19),p 11 (.Za 20)]) (.seq (.Zd [1,2,4,7,8,10,11]) (.seq (.seq (.Ze [p 21 (.Za 11),p 22 (.bin .neq 21 (.k (.int .i64 0)))])
 (.cond 22 (.seq (.Ze [p 23 (.Zi 0 4),r 24 (.load (some 67) 23),p 25 (.Za 11),w0 (.store 67 8 24),p 9 (.Za 25)]) .ret) .skip)) (.seq (.Ze [p 27 (.Zi 0 4),p 28 (.Zi
 2 27),r 29 (.load none 28),r 30 (.load (some 7) 7),p 31 (.Za 2),w 32 (.call (.k (.fn 430 [] [])) [29,30,(.k (.int .i64 0)),31]),p 26 (.Za 32),p 33 (.Zq 0 26),p 34 (.Zq
 1 26),p 12 (.Za 33),p 11 (.Za 34)]) (.seq (.Zd [1,4,8,10,11,12]) (.seq (.seq (.Ze [p 35 (.Za 11),p 36 (.bin .neq 35 (.k (.int .i64 0)))]) (.cond 36 (.seq (.Ze [p 37 (.Zi
 0 4),r 38 (.load (some 67) 37),p 39 (.Za 11),w0 (.store 67 8 38),p 9 (.Za 39)]) .ret) .skip)) (.seq (.Ze [r 41 (.load (some 67) 4),p 42 (.Za 1),r 43 (.load (some 7) 10),w
 44 (.call (.k (.fn 386 [] [])) [41,42,43]),p 40 (.Za 44),p 45 (.Zq 0 40),p 46 (.Zq 1 40),n 13 (.alloc 457 true Qi),w0 (.store 67 13 45),p 11 (.Za 46)]) (.seq (.Zd
 [8,11,12,13]) (.seq (.seq (.Ze [p 47 (.Za 11),p 48 (.bin .eql 47 (.k (.int .i64 0)))]) (.cond 48 (.Ze [p 49 (.Za 12),p 50 (.Zi 2 13),w0 (.store 1 50 49)]) .skip)) (.seq
 (.Ze [r 51 (.load (some 67) 13),p 52 (.Za 11),w0 (.store 67 8 51),p 9 (.Za 52)]) .ret)))))))))))⟩
def Vc:Qa:=⟨2,[.t 4],(.seq (.Ze [p 4 (.Za (.k (.str [])))]) (.seq (.Ze [p 5 (.Za 0),p 6 (.Za 1),w 7 (.call (.k (.fn 431 [] [])) [5,6]),p 4 (.Za 7)])
 .ret))⟩
def Kg:Qa:=⟨1,[.cell 2 (some 7)],(.seq (.Ze [n 2 (.alloc 486 true zCe)]) (.seq (.Ze [p 3 (.Za 0),p 4 (.build zCe [(0,1,(.k (.int .i64 3))),(5,1,3)]),w0
 (.store 7 2 4)]) .ret))⟩
def Kh:Qa:=⟨1,[.cell 2 (some 7)],(.seq (.Ze [n 2 (.alloc 451 true zOb)]) (.seq (.Ze [p 3 (.Za 0),p 4 (.build zOb [(0,1,(.k (.int .i64 5))),(3,1,3)]),w0
 (.store 7 2 4)]) .ret))⟩
def J3:Qa:=⟨0,[.t 0],(.seq (.Ze [p 0 (.Za (.k .Zc))]) (.seq (.Ze [n 1 (.Qe 9 5 [(.str []),(.str []),(.str []),(.str []),(.str [])] [(0,
 1,(.k (.str [70,111,110,116]))),(1,1,(.k (.str [80,97,116,116,101,114,110]))),(2,1,(.k (.str [69,110,99,111,100,105,110,103]))),(3,1,(.k (.str [70,111,114,
 109]))),(4,1,(.k (.str [71,101,110,101,114,105,99])))]),p 0 (.Za 1)]) .ret))⟩
def Xk:Qa:=⟨3,[.cell 6 (some 8),.t 7],(.seq (.Ze [n 4 (.box 451 true 1),n 6 (.alloc 554 true [.Zc,(.int .i64 0),(.bool false),(.int .i64 0),(.str []),
 (.int .i64 0),(.int .i64 0),(.int .i64 0)]),p 7 (.Za (.k (.int .i64 0)))]) (.seq (.seq (.Ze [p 8 (.Za 0),r 9 (.load (some 7) 4),w 10 (.call (.k (.fn 304 [] [])) [8,9]),p 11
 (.un .not 10)]) (.cond 11 (.seq (.Ze [p 12 (.build [.Zc,(.int .i64 0),(.bool false),(.int .i64 0),(.str []),(.int .i64 0),(.int .i64 0),(.int .i64 0)] []),w0 (.store
 8 6 12),p 7 (.Za (.k (.int .i64 2)))]) .ret) .skip)) (.seq (.seq (.Ze [p 13 (.Za 2),p 14 (.Zi 0 4),r 15 (.load none 14),w 16 (.call (.k (.fn 432 [] [])) [13,15]),p 17 (.un
 .not 16)]) (.cond 17 (.seq (.Ze [p 18 (.build [.Zc,(.int .i64 0),(.bool false),(.int .i64 0),(.str []),(.int .i64 0),(.int .i64 0),(.int .i64 0)] []),w0 (.store 8 6 18),
 p 7 (.Za (.k (.int .i64 22)))]) .ret) .skip)) (.seq (.Zd [0,4,6]) (.seq (.Ze [p 19 (.Za 0),p 20 (.build [.Zc] [(0,1,19)]),r 21 (.load (some 7) 4),p 22 (.build [.Zc,
 (.int .i64 0),(.bool false),(.int .i64 0),(.str []),(.int .i64 0),(.int .i64 0),(.int .i64 0)] [(0,1,20),(1,7,21)]),w0 (.store 8 6 22),p 7 (.Za (.k (.int .i64 0)))]) .ret)))))⟩
def Vh:Qa:=⟨1,[.cell 2 (some 7)],(.seq (.Ze [n 1 (.box 554 true 0),n 2 (.alloc 486 true zCe)]) (.seq (.Ze [p 3 (.Zi 0 1),p 4 (.Zi 0 3),r 5 (.load none
 4),p 6 (.Zi 1 1),p 7 (.Zi 4 6),r 8 (.load none 7),p 9 (.Zu 7 5 8),r 10 (.load (some 7) 9),w0 (.store 7 2 10)]) .ret))⟩
def J1:Qa:=⟨2,[.t 4],(.seq (.Ze [n 2 (.box 486 true 0),n 3 (.box 486 true 1),p 4 (.Za (.k (.bool false)))]) (.seq (.Ze [p 5 (.Zi 0 2),r 6 (.load none
 5),p 7 (.Zi 0 3),r 8 (.load none 7),p 9 (.bin .eql 6 8),p 10 (.Za 9),pg 11 10 true (.Zi 1 2),rg 12 10 true (.load none 11),pg 13 10 true (.Zi 1 3),rg 14 10 true (.load
 none 13),pg 15 10 true (.bin .eql 12 14),p 16 (.pick 10 15 (.k (.bool false))),p 17 (.Za 16),pg 18 17 true (.Zi 2 2),rg 19 17 true (.load none 18),pg 20 17 true (.Zi 2
 3),rg 21 17 true (.load none 20),wg 22 17 true (.call (.k (.fn 360 [] [])) [19,21]),p 23 (.pick 17 22 (.k (.bool false))),p 24 (.Za 23),pg 25 24 true (.Zi 3 2),rg 26 24 true
 (.load none 25),pg 27 24 true (.Zi 3 3),rg 28 24 true (.load none 27),wg 29 24 true (.call (.k (.fn 360 [] [])) [26,28]),p 30 (.pick 24 29 (.k (.bool false))),p 31 (.Za 30),
 pg 32 31 true (.Zi 4 2),rg 33 31 true (.load none 32),pg 34 31 true (.Zi 4 3),rg 35 31 true (.load none 34),wg 36 31 true (.call (.k (.fn 360 [] [])) [33,35]),p 37 (.pick
 31 36 (.k (.bool false))),p 38 (.Za 37),pg 39 38 true (.Zi 5 2),rg 40 38 true (.load none 39),pg 41 38 true (.Zi 5 3),rg 42 38 true (.load none 41),pg 43 38 true (.bin
 .eql 40 42),p 44 (.pick 38 43 (.k (.bool false))),p 45 (.Za 44),pg 46 45 true (.Zi 6 2),rg 47 45 true (.load none 46),pg 48 45 true (.Zi 6 3),rg 49 45 true (.load none
 48),pg 50 45 true (.bin .eql 47 49),p 51 (.pick 45 50 (.k (.bool false))),p 4 (.Za 51)]) .ret))⟩
def Ld:Qa:=⟨1,[.t 2],(.seq (.Ze [p 2 (.Za (.k (.str [])))]) (.seq (.Ze [p 6 (.Za 0),w 7 (.call (.k (.fn 133 [] [])) [6]),p 5 (.Za 7),p 8 (.Zq 0 5),p 9
 (.Zq 1 5),p 3 (.Za 8),p 4 (.Za 9)]) (.seq (.Ze [p 10 (.Za 3),p 2 (.Za 10)]) .ret)))⟩
def Ys:Qa:=⟨1,[.t 2],(.seq (.Ze [n 1 (.box 532 true 0),p 2 (.Za (.k (.int .i64 0)))]) (.seq (.Ze [p 3 (.build [(.int .i64 0),(.int .i64 0),(.int .i64
 0),(.int .i64 0)] [(0,1,(.k (.int .i64 0))),(1,1,(.k (.int .i64 1000))),(2,1,(.k (.int .i64 1000))),(3,1,(.k (.int .i64 0)))]),p 4 (.Zi 5 1),r 5 (.load none 4),p 6
 (.Zhv 4 1 none 3 5),p 2 (.Za 6)]) .ret))⟩
def Hy:Qa:=⟨2,[.t 4,.t 5],(.seq (.Ze [n 2 (.box 457 true 0),p 4 (.Za (.k .Zc)),p 5 (.Za (.k (.int .i64 0)))]) (.seq (.seq (.Ze [p 6 (.Za 1),p 7 (.bin .lss
 6 (.k (.int .i64 0)))]) (.cond 7 (.seq (.Ze [p 4 (.Za (.k .Zc)),p 5 (.Za (.k (.int .i64 2)))]) .ret) .skip)) (.seq (.seq (.Ze [p 8 (.Za 1),p 9 (.Zi 0 2),r 10 (.load
 none 9),p 11 (.lenOf false 10),p 12 (.bin .gtr 8 11)]) (.cond 12 (.seq (.Ze [p 4 (.Za (.k .Zc)),p 5 (.Za (.k (.int .i64 20)))]) .ret) .skip)) (.seq (.Ze [p 13 (.Zi 0
 2),r 14 (.load none 13),p 15 (.Zi 0 2),r 16 (.load none 15),p 17 (.lenOf false 16),p 18 (.Za 1),p 19 (.bin .sub 17 18),p 20 (.Zi 0 2),r 21 (.load none 20),p 22 (.lenOf
 false 21),p 23 (.Zi 0 2),r 24 (.load none 23),p 25 (.lenOf false 24),p 26 (.Zia 7 14 (some 19) (some 22) (some 25)),p 4 (.Za 26),p 5 (.Za (.k (.int .i64 0)))]) .ret))))⟩
def Rs:Qa:=⟨2,[.cell 4 (some 67),.t 5],(.seq (.Ze [n 2 (.box 457 true 0),n 4 (.alloc 457 true Qi),p 5 (.Za (.k (.int .i64 0)))]) (.seq (.seq (.Ze [p 6 (.Za
 1),p 7 (.bin .lss 6 (.k (.int .i64 0)))]) (.cond 7 (.seq (.Ze [r 8 (.load (some 67) 2),w0 (.store 67 4 8),p 5 (.Za (.k (.int .i64 2)))]) .ret) .skip)) (.seq (.seq (.Ze [p 9 (.Za
 1),p 10 (.Zi 0 2),r 11 (.load none 10),p 12 (.lenOf false 11),p 13 (.bin .gtr 9 12)]) (.cond 13 (.seq (.Ze [r 14 (.load (some 67) 2),w0 (.store 67 4 14),p 5 (.Za (.k (.int
 .i64 20)))]) .ret) .skip)) (.seq (.Zd [1,2,4]) (.seq (.Ze [p 15 (.Zi 0 2),r 16 (.load none 15),p 17 (.Zi 0 2),r 18 (.load none 17),p 19 (.lenOf false 18),p 20 (.Za
 1),p 21 (.bin .sub 19 20),p 22 (.Zi 0 2),r 23 (.load none 22),p 24 (.lenOf false 23),p 25 (.Za 1),p 26 (.bin .sub 24 25),p 27 (.Zia 7 16 none (some 21) (some 26)),p 28
 (.Zi 0 2),w0 (.store 1 28 27)]) (.seq (.Zd [2,4]) (.seq (.Ze [r 29 (.load (some 67) 2),w0 (.store 67 4 29),p 5 (.Za (.k (.int .i64 0)))]) .ret)))))))⟩
def Xj:Qa:=⟨2,[.t 4,.t 5],(.seq (.Ze [n 3 (.box 451 true 1),p 4 (.Za (.k (.str []))),p 5 (.Za (.k (.bool false)))]) (.seq (.seq (.Ze [p 8 (.Zi 0 3),r 9 (.load
 none 8),p 10 (.bin .eql 9 (.k (.int .i64 5)))]) (.cond 10 (.seq (.Ze [p 11 (.Zi 3 3),r 12 (.load none 11),p 4 (.Za 12),p 5 (.Za (.k (.bool true)))]) .ret) .skip)) (.seq (.Ze
 [p 14 (.Za 0),r 15 (.load (some 7) 3),w 16 (.call (.k (.fn 357 [] [])) [14,15]),p 13 (.Za 16),p 17 (.Zq 0 13),p 18 (.Zq 1 13),p 6 (.Za 17),p 7 (.Za 18)]) (.seq (.Zd
 [6,7]) (.seq (.Ze [p 19 (.Za 6),p 20 (.Za 7),p 21 (.bin .eql 20 (.k (.int .i64 0))),p 4 (.Za 19),p 5 (.Za 21)]) .ret)))))⟩
def Lg:Qa:=⟨2,[.cell 3 (some 7)],(.seq (.Ze [n 3 (.alloc 451 true zOb)]) (.seq (.Ze [p 4 (.Za 0),r 5 (.load none 1),p 6 (.build zOb [(0,1,(.k (.int .i64 5))),
 (3,1,4),(1,1,5)]),w0 (.store 7 3 6)]) .ret))⟩
def Vb:Qa:=⟨2,[.cell 4 (some 7),.t 5],(.seq (.Ze [n 4 (.alloc 451 true zOb),p 5 (.Za (.k (.int .i64 0)))]) (.seq (.Ze [p 7 (.Za 1),p 8 (.Za 0),w 9 (.call
 7 [8]),n 6 (.alloc 451 true zOb),w0 (.store 7 6 9)]) (.seq (.seq (.Ze [r 10 (.load (some 7) 6),w 11 (.call (.k (.fn 326 [] [])) [10]),p 12 (.bin .neq 11 (.k (.int .i64 0)))]) (.cond
 12 (.seq (.Ze [p 13 (.build zOb []),w0 (.store 7 4 13),p 5 (.Za (.k (.int .i64 2)))]) .ret) .skip)) (.seq (.Ze [r 14 (.load (some 7) 6),w0 (.store 7 4 14),p 5 (.Za (.k (.int
 .i64 0)))]) .ret))))⟩
def K0:Qa:=⟨2,[.cell 4 (some 7),.t 5],(.seq (.Ze [n 2 (.box 493 true 0),n 3 (.box 451 true 1),n 4 (.alloc 451 true zOb),p 5 (.Za (.k (.int .i64 0)))])
 (.seq (.seq (.Ze [p 10 (.Zi 0 3),r 11 (.load none 10),p 12 (.bin .neq 11 (.k (.int .i64 6)))]) (.cond 12 (.seq (.Ze [r 13 (.load (some 7) 3),w0 (.store 7 4 13),p 5 (.Za (.k
 (.int .i64 0)))]) .ret) .skip)) (.seq (.Ze [p 15 (.Zi 0 2),p 16 (.Zi 2 15),r 17 (.load none 16),r 18 (.load (some 7) 3),w 19 (.call (.k (.fn 357 [] [])) [17,18]),p 14 (.Za
 19),p 20 (.Zq 0 14),p 21 (.Zq 1 14),p 6 (.Za 20),p 7 (.Za 21)]) (.seq (.Zd [4,6]) (.seq (.Ze [p 23 (.Za 6),w 24 (.call (.k (.fn 63 [] [])) [23]),p 22 (.Za 24),p 25
 (.Zq 0 22),p 26 (.Zq 1 22),n 8 (.alloc 134 true [(.int .i64 0),(.int .i64 0),(.str [])]),w0 (.store 3 8 25),p 9 (.Za 26)]) (.seq (.Zd [4,8,9]) (.seq (.block 0 (.seq (.Ze
 [p 28 (.Za 9),p 29 (.bin .eql 28 (.k (.int .i64 5))),p 27 (.Za 29)]) (.cond 27 (.seq (.Ze [p 30 (.build zOb []),w0 (.store 7 4 30),p 5 (.Za (.k (.int .i64 22)))]) .ret) (.seq
 (.Ze [p 32 (.Za 9),p 33 (.bin .neq 32 (.k (.int .i64 0))),p 31 (.Za 33)]) (.cond 31 (.seq (.Ze [p 34 (.build zOb []),w0 (.store 7 4 34),p 5 (.Za (.k (.int .i64 23)))]) .ret)
 (.seq (.Ze [p 36 (.Zi 0 8),r 37 (.load none 36),p 38 (.bin .eql 37 (.k (.int .i64 2))),p 35 (.Za 38)]) (.cond 35 (.seq (.Ze [p 39 (.Zi 1 8),r 40 (.load none 39),w 41 (.call
 (.k (.fn 393 [] [])) [40]),p 42 (.Zq 0 41),p 43 (.Zq 1 41),w0 (.store 7 4 42),p 5 (.Za 43)]) .ret) .skip))))))) (.seq (.Zd [4,8]) (.seq (.Ze [p 44 (.Zi 1 8),r 45 (.load
 none 44),w 46 (.call (.k (.fn 392 [] [])) [45]),p 47 (.Zq 0 46),p 48 (.Zq 1 46),w0 (.store 7 4 47),p 5 (.Za 48)]) .ret)))))))))⟩
def Wc:Qa:=⟨1,[.cell 2 (some 7),.t 3],(.seq (.Ze [n 1 (.box 451 true 0),n 2 (.alloc 569 true zOb),p 3 (.Za (.k (.int .i64 0)))]) (.seq (.seq (.Ze [r 5 (.load
 (some 7) 1),w 6 (.call (.k (.fn 326 [] [])) [5]),p 4 (.Za 6)]) (.seq (.Ze [p 7 (.Za 4),p 8 (.bin .neq 7 (.k (.int .i64 0)))]) (.cond 8 (.seq (.Ze [p 9 (.build zOb []),p 10 (.Za
 4),w0 (.store 7 2 9),p 3 (.Za 10)]) .ret) .skip))) (.seq (.Zd [1,2]) (.seq (.seq (.Ze [p 11 (.Zi 0 1),r 12 (.load none 11),p 13 (.bin .neq 12 (.k (.int .i64 3))),p 14 (.Za
 13),pg 15 14 true (.Zi 0 1),rg 16 14 true (.load none 15),pg 17 14 true (.bin .neq 16 (.k (.int .i64 4))),p 18 (.pick 14 17 (.k (.bool false)))]) (.seq (.Zd [1,2,18]) (.cond
 18 (.seq (.Ze [p 19 (.build zOb []),w0 (.store 7 2 19),p 3 (.Za (.k (.int .i64 22)))]) .ret) .skip))) (.seq (.Zd [1,2]) (.seq (.Ze [r 20 (.load (some 7) 1),p 21 (.build zOb
 [(0,7,20)]),w0 (.store 7 2 21),p 3 (.Za (.k (.int .i64 0)))]) .ret))))))⟩
def Yt:Qa:=⟨1,[.t 2],(.seq (.Ze [n 1 (.box 569 true 0),p 2 (.Za (.k (.int .i64 0)))]) (.seq (.seq (.Ze [p 3 (.Zi 0 1),p 4 (.Zi 0 3),r 5 (.load none
 4),p 6 (.bin .eql 5 (.k (.int .i64 3)))]) (.cond 6 (.seq (.Ze [p 7 (.Zi 0 1),p 8 (.Zi 2 7),r 9 (.load none 8),p 10 (.bin .mul 9 (.k (.int .i64 65536))),p 2 (.Za 10)]) .ret)
 .skip)) (.seq (.Zd [1]) (.seq (.Ze [p 11 (.Zi 0 1),p 12 (.Zi 2 11),r 13 (.load none 12),p 2 (.Za 13)]) .ret))))⟩
def Yw:Qa:=⟨2,[.cell 4 (some 7),.t 5],(.seq (.Ze [n 4 (.alloc 451 true zOb),p 5 (.Za (.k (.int .i64 0)))]) (.seq (.Ze [p 7 (.Za 1),p 8 (.Za 0),w 9 (.call
 7 [8]),n 6 (.alloc 451 true zOb),w0 (.store 7 6 9)]) (.seq (.seq (.Ze [r 10 (.load (some 7) 6),w 11 (.call (.k (.fn 326 [] [])) [10]),p 12 (.bin .neq 11 (.k (.int .i64 0)))]) (.cond
 12 (.seq (.Ze [p 13 (.build zOb []),w0 (.store 7 4 13),p 5 (.Za (.k (.int .i64 2)))]) .ret) .skip)) (.seq (.Ze [r 14 (.load (some 7) 6),w0 (.store 7 4 14),p 5 (.Za (.k (.int
 .i64 0)))]) .ret))))⟩
def Nc:Qa:=⟨1,[.cell 2 (some 7)],(.seq (.Ze [n 2 (.alloc 451 true zOb)]) (.seq (.Ze [p 3 (.Za 0),p 4 (.build zOb [(0,1,(.k (.int .i64 3))),(2,1,3)]),w0 (.store
 7 2 4)]) .ret))⟩
def Lh:Qa:=⟨1,[.cell 2 (some 7)],(.seq (.Ze [n 2 (.alloc 451 true zOb)]) (.seq (.Ze [p 3 (.Za 0),p 4 (.build zOb [(0,1,(.k (.int .i64 4))),(2,1,3)]),w0
 (.store 7 2 4)]) .ret))⟩
def X9:Qa:=⟨3,[.cell 6 (some 7),.t 7],(.seq (.Ze [n 3 (.box 451 true 0),n 6 (.alloc 451 true zOb),p 7 (.Za (.k (.int .i64 0)))]) (.seq (.seq (.Ze [r 8 (.load
 (some 7) 3),w 9 (.call (.k (.fn 326 [] [])) [8]),p 10 (.bin .neq 9 (.k (.int .i64 0)))]) (.cond 10 (.seq (.Ze [p 11 (.build zOb []),w0 (.store 7 6 11),p 7 (.Za (.k (.int .i64
 2)))]) .ret) .skip)) (.seq (.seq (.Ze [p 12 (.Zi 0 3),r 13 (.load none 12),p 14 (.bin .neq 13 (.k (.int .i64 6))),p 15 (.Za 14),pg 16 15 true (.Zi 0 3),rg 17 15 true (.load
 none 16),pg 18 15 true (.bin .neq 17 (.k (.int .i64 7))),p 19 (.pick 15 18 (.k (.bool false))),p 20 (.Za 19),pg 21 20 true (.Zi 0 3),rg 22 20 true (.load none 21),pg 23 20
 true (.bin .neq 22 (.k (.int .i64 8))),p 24 (.pick 20 23 (.k (.bool false)))]) (.seq (.Zd [1,2,3,6,24]) (.cond 24 (.seq (.Ze [p 25 (.build zOb []),w0 (.store 7 6 25),p 7 (.Za
 (.k (.int .i64 22)))]) .ret) .skip))) (.seq (.Zd [1,2,3,6]) (.seq (.seq (.Ze [p 26 (.Za 1),p 27 (.bin .lss 26 (.k (.int .i64 0))),p 28 (.Za 27),pg 29 28 false (.Za 2),pg
 30 28 false (.bin .lss 29 (.k (.int .i64 0))),p 31 (.pick 28 (.k (.bool true)) 30),p 32 (.Za 31),pg 33 32 false (.Za 1),pg 34 32 false (.Zi 6 3),rg 35 32 false (.load none
 34),pg 36 32 false (.bin .gtr 33 35),p 37 (.pick 32 (.k (.bool true)) 36),p 38 (.Za 37),pg 39 38 false (.Za 2),pg 40 38 false (.Zi 6 3),rg 41 38 false (.load none 40),pg
 42 38 false (.Za 1),pg 43 38 false (.bin .sub 41 42),pg 44 38 false (.bin .gtr 39 43),p 45 (.pick 38 (.k (.bool true)) 44)]) (.seq (.Zd [1,2,3,6,45]) (.cond 45 (.seq (.Ze
 [p 46 (.build zOb []),w0 (.store 7 6 46),p 7 (.Za (.k (.int .i64 23)))]) .ret) .skip))) (.seq (.Zd [1,2,3,6]) (.seq (.Ze [p 47 (.Zi 5 3),r 48 (.load none 47),p 49 (.Za
 1),p 50 (.bin .add 48 49),p 51 (.Za 2),p 52 (.Zi 5 3),w0 (.store 1 52 50),p 53 (.Zi 6 3),w0 (.store 1 53 51)]) (.seq (.Zd [3,6]) (.seq (.Ze [r 54 (.load (some 7) 3),
 w0 (.store 7 6 54),p 7 (.Za (.k (.int .i64 0)))]) .ret)))))))))⟩
def La:Qa:=⟨4,[.t 8,.t 9],(.seq (.Ze [n 5 (.box 451 true 1),p 8 (.Za (.k .Zc)),p 9 (.Za (.k (.int .i64 0)))]) (.seq (.Ze [p 14 (.Za 0),r 15 (.load
 (some 7) 5),n 16 (.Qe 3 1 [(.int .i64 0)] [(0,1,(.k (.int .i64 6)))]),w 17 (.call (.k (.fn 400 [] [])) [14,15,16]),p 13 (.Za 17),p 18 (.Zq 0 13),p 19 (.Zq 1 13),
 n 10 (.alloc 554 true [.Zc,(.int .i64 0),(.bool false),(.int .i64 0),(.str []),(.int .i64 0),(.int .i64 0),(.int .i64 0)]),w0 (.store 8 10 18),p 11 (.Za 19)]) (.seq
 (.Zd [2,3,5,10,11]) (.seq (.seq (.Ze [p 20 (.Za 11),p 21 (.bin .eql 20 (.k (.int .i64 0)))]) (.cond 21 (.Ze [r 22 (.load (some 8) 10),p 23 (.Za 2),p 24 (.Za 3),p 25 (.lenOf
 true 24),w 26 (.call (.k (.fn 439 [] [])) [22,23,25]),p 11 (.Za 26)]) .skip)) (.seq (.Zd [2,3,5,10,11]) (.seq (.seq (.Ze [p 27 (.Za 11),p 28 (.bin .neq 27 (.k (.int .i64
 0)))]) (.cond 28 (.seq (.Ze [p 29 (.Za 11),p 8 (.Za (.k .Zc)),p 9 (.Za 29)]) .ret) .skip)) (.seq (.Ze [r 30 (.load (some 8) 10),w 31 (.call (.k (.fn 401 [] [])) [30]),
 n 12 (.alloc 486 true zCe),w0 (.store 7 12 31)]) (.seq (.Ze [p 32 (.Zi 1 12),r 33 (.load none 32),n 34 (.s2b 5 33),p 35 (.Zi 5 5),r 36 (.load none 35),p 37 (.Za 2),p
 38 (.bin .add 36 37),p 39 (.Za 3),n 40 (.s2b 5 39),w 41 (.call (.k (.fn 440 [] [])) [34,38,40]),r 42 (.b2s 41),p 43 (.Zi 1 12),w0 (.store 1 43 42)]) (.seq (.Zd [10,12])
 (.seq (.Ze [r 44 (.load (some 8) 10),r 45 (.load (some 7) 12),w 46 (.call (.k (.fn 441 [] [])) [44,45]),p 8 (.Za 46),p 9 (.Za (.k (.int .i64 0)))]) .ret))))))))))⟩
def J2:Qa:=⟨2,[.t 4],(.seq (.Ze [p 4 (.Za (.k (.str [])))]) (.seq (.seq (.Ze [p 9 (.Za 1),p 10 (.bin .eql 9 (.k (.int .i64 10)))]) (.cond 10 (.seq (.seq
 (.Ze [p 11 (.Za 0),p 12 (.bin .lss 11 (.k (.int .u64 100)))]) (.cond 12 (.seq (.Ze [p 13 (.Za 0),p 14 (.conv .i64 13),w 15 (.call (.k (.fn 442 [] [])) [14]),p 4 (.Za 15)])
 .ret) .skip)) (.seq (.Ze [n 5 (.alloc 233 false (List.replicate 24 (.int .u8 0)))]) (.seq (.Ze [p 16 (.Za 0),w 17 (.call (.k (.fn 443 [] [])) [16]),p 6 (.Za 17)]) (.seq (.Ze
 [p 18 (.Za 6),p 19 (.Zmf 24 1 5 none (some 18) none),p 20 (.Za 0),w 21 (.call (.k (.fn 444 [] [])) [19,20])]) (.seq (.Ze [p 22 (.Za 6),p 23 (.Zmf 24 1 5 none (some 22) none),
 r 24 (.b2s 23),p 4 (.Za 24)]) .ret))))) .skip)) (.seq (.Zd [0,1]) (.seq (.Ze [p 26 (.Za 0),p 27 (.Za 1),w 28 (.call (.k (.fn 445 [] [])) [(.k .Zc),26,27,(.k (.bool
 false)),(.k (.bool false))]),p 25 (.Za 28),p 29 (.Zq 0 25),p 30 (.Zq 1 25),p 7 (.Za 29),p 8 (.Za 30)]) (.seq (.Zd [8]) (.seq (.Ze [p 31 (.Za 8),p 4 (.Za 31)]) .ret))))))⟩
def Ka:Qa:=⟨2,[.t 4],(.seq (.Ze [p 4 (.Za (.k (.bool false)))]) (.seq (.Ze [p 5 (.Za 0),p 6 (.Za 1),w 7 (.call (.k (.fn 446 [] [])) [5,6]),p 8
 (.bin .geq 7 (.k (.int .i64 0))),p 4 (.Za 8)]) .ret))⟩
def Yk:Qa:=⟨3,[.t 6],(.seq (.Ze [n 3 (.box 554 true 0),p 6 (.Za (.k (.int .i64 0)))]) (.seq (.seq (.Ze [p 7 (.Za 1),p 8 (.bin .lss 7 (.k (.int .i64 0))),p
 9 (.Za 8),pg 10 9 false (.Za 1),pg 11 9 false (.Zi 1 3),pg 12 9 false (.Zi 6 11),rg 13 9 false (.load none 12),pg 14 9 false (.bin .gtr 10 13),p 15 (.pick 9 (.k (.bool
 true)) 14),p 16 (.Za 15),pg 17 16 false (.Za 2),pg 18 16 false (.Zi 1 3),pg 19 16 false (.Zi 6 18),rg 20 16 false (.load none 19),pg 21 16 false (.Za 1),pg 22 16 false
 (.bin .sub 20 21),pg 23 16 false (.bin .gtr 17 22),p 24 (.pick 16 (.k (.bool true)) 23)]) (.seq (.Zd [24]) (.cond 24 (.seq (.Ze [p 6 (.Za (.k (.int .i64 23)))]) .ret) .skip)))
 (.seq (.Zd []) (.seq (.Ze [p 6 (.Za (.k (.int .i64 0)))]) .ret))))⟩
def Ky:Qa:=⟨3,[.t 6],(.seq (.Ze [p 6 (.Za (.k .Zc))]) (.seq (.Ze [p 8 (.Za 0),p 9 (.lenOf false 8),n 10 (.Zre 5 1 1 [(.int .u8 0)] 9 9),p 7 (.Za
 10)]) (.seq (.Ze [p 11 (.Za 7),p 12 (.Za 0),w 13 (.copy 1 11 12)]) (.seq (.Ze [p 14 (.Za 7),p 15 (.Za 1),p 16 (.Zia 1 14 (some 15) none none),p 17 (.Za 2),w 18 (.copy
 1 16 17)]) (.seq (.Ze [p 19 (.Za 7),p 6 (.Za 19)]) .ret)))))⟩
def Xa:Qa:=⟨2,[.t 4],(.seq (.Ze [n 2 (.box 554 true 0),n 3 (.box 486 true 1),p 4 (.Za (.k .Zc))]) (.seq (.Ze [p 6 (.Zi 0 2),p 7 (.Zi 0 6),r 8
 (.load none 7),p 9 (.lenOf false 8),n 10 (.Zre 486 7 112 zCe 9 9),p 5 (.Za 10)]) (.seq (.Ze [p 11 (.Za 5),p 12 (.Zi 0 2),p 13 (.Zi 0 12),r 14 (.load none 13),w 15 (.copy
 7 11 14)]) (.seq (.Ze [p 16 (.Za 5),p 17 (.Zi 1 2),p 18 (.Zi 4 17),r 19 (.load none 18),r 20 (.load (some 7) 3),p 21 (.Zu 7 16 19),w0 (.store 7 21 20)]) (.seq (.Ze
 [p 22 (.Za 5),p 4 (.Za 22)]) .ret)))))⟩
def Ea:Qa:=⟨1,[.t 2],(.seq (.Ze [p 2 (.Za (.k (.str [])))]) (.seq (.seq (.Ze [p 3 (.Za 0),p 4 (.bin .lss 3 (.k (.int .i64 10)))]) (.cond 4 (.seq (.Ze [p 5 (.Za
 0),p 6 (.Za 0),p 7 (.bin .add 6 (.k (.int .i64 1))),p 8 (.B5 (.k (.str [48,49,50,51,52,53,54,55,56,57,97,98,99,100,101,102,103,104,105,106,107,108,109,110,
 111,112,113,114,115,116,117,118,119,120,121,122])) (some 5) (some 7)),p 2 (.Za 8)]) .ret) .skip)) (.seq (.Ze [p 9 (.Za 0),p 10 (.bin .mul 9 (.k (.int .i64 2))),p 11
 (.Za 0),p 12 (.bin .mul 11 (.k (.int .i64 2))),p 13 (.bin .add 12 (.k (.int .i64 2))),p 14 (.B5 (.k (.str [48,48,48,49,48,50,48,51,48,52,48,53,48,54,48,55,48,
 56,48,57,49,48,49,49,49,50,49,51,49,52,49,53,49,54,49,55,49,56,49,57,50,48,50,49,50,50,50,51,50,52,50,53,50,54,50,55,50,56,50,57,51,48,51,
 49,51,50,51,51,51,52,51,53,51,54,51,55,51,56,51,57,52,48,52,49,52,50,52,51,52,52,52,53,52,54,52,55,52,56,52,57,53,48,53,49,53,50,53,51,53,
 52,53,53,53,54,53,55,53,56,53,57,54,48,54,49,54,50,54,51,54,52,54,53,54,54,54,55,54,56,54,57,55,48,55,49,55,50,55,51,55,52,55,53,55,54,55,
 55,55,56,55,57,56,48,56,49,56,50,56,51,56,52,56,53,56,54,56,55,56,56,56,57,57,48,57,49,57,50,57,51,57,52,57,53,57,54,57,55,57,56,57,57]))
 (some 10) (some 13)),p 2 (.Za 14)]) .ret)))⟩
def L9:Qa:=⟨1,[.t 2],(.seq (.Ze [p 2 (.Za (.k (.int .i64 0)))]) (.seq (.Ze [p 4 (.Za 0),w 5 (.call (.k (.fn 53 [] [])) [4]),w 6 (.call (.k (.fn 447 [] []))
 [5]),p 3 (.Za 6)]) (.seq (.Ze [p 7 (.Za 3),p 8 (.Za 0),p 9 (.Za 3),r 10 (.Sa 4 20 1 9),r 11 (.load none 10),p 12 (.bin .geq 8 11),w 13 (.call (.k (.fn 448 [] [])) [12]),
 p 14 (.bin .add 7 13),p 2 (.Za 14)]) .ret)))⟩
def Of:Zv:=(.seq (.Zd [0,1,4]) (.seq (.seq (.Ze [p 19 (.Za 4),p 20 (.bin .geq 19 (.k (.int .i64 8)))]) (.cond 20 .skip (.exit 0))) (.block 1 (.seq
 (.Ze [p 21 (.Za 1),p 22 (.bin .rem 21 (.k (.int .u64 100000000))),p 23 (.conv .u32 22),p 5 (.Za 23)]) (.seq (.Ze [p 24 (.Za 1),p 25 (.bin .quo 24 (.k (.int .u64 100000000))),
 p 1 (.Za 25)]) (.seq (.Ze [p 26 (.Za 5),p 27 (.bin .quo 26 (.k (.int .u32 10000))),p 28 (.Za 5),p 29 (.bin .rem 28 (.k (.int .u32 10000))),p 6 (.Za 27),p 7 (.Za 29)]) (.seq
 (.Ze [p 30 (.Za 7),p 31 (.bin .quo 30 (.k (.int .u32 100))),p 32 (.bin .mul 31 (.k (.int .u32 2))),p 33 (.Za 7),p 34 (.bin .rem 33 (.k (.int .u32 100))),p 35 (.bin .mul 34 (.k
 (.int .u32 2))),p 8 (.Za 32),p 9 (.Za 35)]) (.seq (.Zd [0,1,4,6,8,9]) (.seq (.Ze [p 36 (.Za 6),p 37 (.bin .quo 36 (.k (.int .u32 100))),p 38 (.bin .mul 37 (.k (.int .u32
 2))),p 39 (.Za 6),p 40 (.bin .rem 39 (.k (.int .u32 100))),p 41 (.bin .mul 40 (.k (.int .u32 2))),p 10 (.Za 38),p 11 (.Za 41)]) (.seq (.Zd [0,1,4,8,9,10,11]) (.seq (.Kv
 [.op 0 (p 42 (.Za 0)),.op 1 (p 43 (.Za 4)),.op 2 (p 44 (.bin .sub 43 (.k (.int .i64 1)))),.op 6 (p 48 (.Za 9)),.op 7 (p 49 (.bin .add 48 (.k (.int .u32 1)))),.op 8 (p 50 (.J7
 (.k (.str [48,48,48,49,48,50,48,51,48,52,48,53,48,54,48,55,48,56,48,57,49,48,49,49,49,50,49,51,49,52,49,53,49,54,49,55,49,56,49,57,50,48,50,
 49,50,50,50,51,50,52,50,53,50,54,50,55,50,56,50,57,51,48,51,49,51,50,51,51,51,52,51,53,51,54,51,55,51,56,51,57,52,48,52,49,52,50,52,51,52,
 52,52,53,52,54,52,55,52,56,52,57,53,48,53,49,53,50,53,51,53,52,53,53,53,54,53,55,53,56,53,57,54,48,54,49,54,50,54,51,54,52,54,53,54,54,54,
 55,54,56,54,57,55,48,55,49,55,50,55,51,55,52,55,53,55,54,55,55,55,56,55,57,56,48,56,49,56,50,56,51,56,52,56,53,56,54,56,55,56,56,56,57,57,
 48,57,49,57,50,57,51,57,52,57,53,57,54,57,55,57,56,57,57])) 49)),.op 11 (p 53 (.Zu 1 42 44)),.op 12 (w0 (.store 1 53 50)),.op 3 (p 45 (.Za 0)),.op 4 (p 46
 (.Za 4)),.op 5 (p 47 (.bin .sub 46 (.k (.int .i64 2)))),.op 9 (p 51 (.Za 9)),.op 10 (p 52 (.J7 (.k (.str [48,48,48,49,48,50,48,51,48,52,48,53,48,54,48,55,48,
 56,48,57,49,48,49,49,49,50,49,51,49,52,49,53,49,54,49,55,49,56,49,57,50,48,50,49,50,50,50,51,50,52,50,53,50,54,50,55,50,56,50,57,51,48,51,
 49,51,50,51,51,51,52,51,53,51,54,51,55,51,56,51,57,52,48,52,49,52,50,52,51,52,52,52,53,52,54,52,55,52,56,52,57,53,48,53,49,53,50,53,51,53,
 52,53,53,53,54,53,55,53,56,53,57,54,48,54,49,54,50,54,51,54,52,54,53,54,54,54,55,54,56,54,57,55,48,55,49,55,50,55,51,55,52,55,53,55,54,55,
 55,55,56,55,57,56,48,56,49,56,50,56,51,56,52,56,53,56,54,56,55,56,56,56,57,57,48,57,49,57,50,57,51,57,52,57,53,57,54,57,55,57,56,57,57]))
 51)),.op 13 (p 54 (.Zu 1 45 47)),.op 14 (w0 (.store 1 54 52))]) (.seq (.Zd [0,1,4,8,10,11]) (.seq (.Kv [.op 0 (p 55 (.Za 0)),.op 1 (p 56 (.Za 4)),.op 2 (p 57 (.bin
 .sub 56 (.k (.int .i64 3)))),.op 6 (p 61 (.Za 8)),.op 7 (p 62 (.bin .add 61 (.k (.int .u32 1)))),.op 8 (p 63 (.J7 (.k (.str [48,48,48,49,48,50,48,51,48,52,48,53,48,
 54,48,55,48,56,48,57,49,48,49,49,49,50,49,51,49,52,49,53,49,54,49,55,49,56,49,57,50,48,50,49,50,50,50,51,50,52,50,53,50,54,50,55,50,56,50,
 57,51,48,51,49,51,50,51,51,51,52,51,53,51,54,51,55,51,56,51,57,52,48,52,49,52,50,52,51,52,52,52,53,52,54,52,55,52,56,52,57,53,48,53,49,53,
 50,53,51,53,52,53,53,53,54,53,55,53,56,53,57,54,48,54,49,54,50,54,51,54,52,54,53,54,54,54,55,54,56,54,57,55,48,55,49,55,50,55,51,55,52,55,
 53,55,54,55,55,55,56,55,57,56,48,56,49,56,50,56,51,56,52,56,53,56,54,56,55,56,56,56,57,57,48,57,49,57,50,57,51,57,52,57,53,57,54,57,55,57,
 56,57,57])) 62)),.op 11 (p 66 (.Zu 1 55 57)),.op 12 (w0 (.store 1 66 63)),.op 3 (p 58 (.Za 0)),.op 4 (p 59 (.Za 4)),.op 5 (p 60 (.bin .sub 59 (.k (.int .i64 4)))),.op
 9 (p 64 (.Za 8)),.op 10 (p 65 (.J7 (.k (.str [48,48,48,49,48,50,48,51,48,52,48,53,48,54,48,55,48,56,48,57,49,48,49,49,49,50,49,51,49,52,49,53,49,
 54,49,55,49,56,49,57,50,48,50,49,50,50,50,51,50,52,50,53,50,54,50,55,50,56,50,57,51,48,51,49,51,50,51,51,51,52,51,53,51,54,51,55,51,56,51,
 57,52,48,52,49,52,50,52,51,52,52,52,53,52,54,52,55,52,56,52,57,53,48,53,49,53,50,53,51,53,52,53,53,53,54,53,55,53,56,53,57,54,48,54,49,54,
 50,54,51,54,52,54,53,54,54,54,55,54,56,54,57,55,48,55,49,55,50,55,51,55,52,55,53,55,54,55,55,55,56,55,57,56,48,56,49,56,50,56,51,56,52,56,
 53,56,54,56,55,56,56,56,57,57,48,57,49,57,50,57,51,57,52,57,53,57,54,57,55,57,56,57,57])) 64)),.op 13 (p 67 (.Zu 1 58 60)),.op 14 (w0 (.store 1 67
 65))]) (.seq (.Zd [0,1,4,10,11]) (.seq (.Kv [.op 0 (p 68 (.Za 0)),.op 1 (p 69 (.Za 4)),.op 2 (p 70 (.bin .sub 69 (.k (.int .i64 5)))),.op 6 (p 74 (.Za 11)),.op 7 (p 75
 (.bin .add 74 (.k (.int .u32 1)))),.op 8 (p 76 (.J7 (.k (.str [48,48,48,49,48,50,48,51,48,52,48,53,48,54,48,55,48,56,48,57,49,48,49,49,49,50,49,51,49,
 52,49,53,49,54,49,55,49,56,49,57,50,48,50,49,50,50,50,51,50,52,50,53,50,54,50,55,50,56,50,57,51,48,51,49,51,50,51,51,51,52,51,53,51,54,51,
 55,51,56,51,57,52,48,52,49,52,50,52,51,52,52,52,53,52,54,52,55,52,56,52,57,53,48,53,49,53,50,53,51,53,52,53,53,53,54,53,55,53,56,53,57,54,
 48,54,49,54,50,54,51,54,52,54,53,54,54,54,55,54,56,54,57,55,48,55,49,55,50,55,51,55,52,55,53,55,54,55,55,55,56,55,57,56,48,56,49,56,50,56,
 51,56,52,56,53,56,54,56,55,56,56,56,57,57,48,57,49,57,50,57,51,57,52,57,53,57,54,57,55,57,56,57,57])) 75)),.op 11 (p 79 (.Zu 1 68 70)),.op 12 (w0
 (.store 1 79 76)),.op 3 (p 71 (.Za 0)),.op 4 (p 72 (.Za 4)),.op 5 (p 73 (.bin .sub 72 (.k (.int .i64 6)))),.op 9 (p 77 (.Za 11)),.op 10 (p 78 (.J7 (.k (.str [48,48,48,49,
 48,50,48,51,48,52,48,53,48,54,48,55,48,56,48,57,49,48,49,49,49,50,49,51,49,52,49,53,49,54,49,55,49,56,49,57,50,48,50,49,50,50,50,51,50,52,
 50,53,50,54,50,55,50,56,50,57,51,48,51,49,51,50,51,51,51,52,51,53,51,54,51,55,51,56,51,57,52,48,52,49,52,50,52,51,52,52,52,53,52,54,52,55,
 52,56,52,57,53,48,53,49,53,50,53,51,53,52,53,53,53,54,53,55,53,56,53,57,54,48,54,49,54,50,54,51,54,52,54,53,54,54,54,55,54,56,54,57,55,48,
 55,49,55,50,55,51,55,52,55,53,55,54,55,55,55,56,55,57,56,48,56,49,56,50,56,51,56,52,56,53,56,54,56,55,56,56,56,57,57,48,57,49,57,50,57,51,
 57,52,57,53,57,54,57,55,57,56,57,57])) 77)),.op 13 (p 80 (.Zu 1 71 73)),.op 14 (w0 (.store 1 80 78))]) (.seq (.Zd [0,1,4,10]) (.seq (.Kv [.op 0 (p 81 (.Za 0)),
 .op 1 (p 82 (.Za 4)),.op 2 (p 83 (.bin .sub 82 (.k (.int .i64 7)))),.op 6 (p 87 (.Za 10)),.op 7 (p 88 (.bin .add 87 (.k (.int .u32 1)))),.op 8 (p 89 (.J7 (.k (.str [48,48,
 48,49,48,50,48,51,48,52,48,53,48,54,48,55,48,56,48,57,49,48,49,49,49,50,49,51,49,52,49,53,49,54,49,55,49,56,49,57,50,48,50,49,50,50,50,51,
 50,52,50,53,50,54,50,55,50,56,50,57,51,48,51,49,51,50,51,51,51,52,51,53,51,54,51,55,51,56,51,57,52,48,52,49,52,50,52,51,52,52,52,53,52,54,
 52,55,52,56,52,57,53,48,53,49,53,50,53,51,53,52,53,53,53,54,53,55,53,56,53,57,54,48,54,49,54,50,54,51,54,52,54,53,54,54,54,55,54,56,54,57,
 55,48,55,49,55,50,55,51,55,52,55,53,55,54,55,55,55,56,55,57,56,48,56,49,56,50,56,51,56,52,56,53,56,54,56,55,56,56,56,57,57,48,57,49,57,50,
 57,51,57,52,57,53,57,54,57,55,57,56,57,57])) 88)),.op 11 (p 92 (.Zu 1 81 83)),.op 12 (w0 (.store 1 92 89)),.op 3 (p 84 (.Za 0)),.op 4 (p 85 (.Za 4)),.op 5 (p
 86 (.bin .sub 85 (.k (.int .i64 8)))),.op 9 (p 90 (.Za 10)),.op 10 (p 91 (.J7 (.k (.str [48,48,48,49,48,50,48,51,48,52,48,53,48,54,48,55,48,56,48,57,49,48,
 49,49,49,50,49,51,49,52,49,53,49,54,49,55,49,56,49,57,50,48,50,49,50,50,50,51,50,52,50,53,50,54,50,55,50,56,50,57,51,48,51,49,51,50,51,51,
 51,52,51,53,51,54,51,55,51,56,51,57,52,48,52,49,52,50,52,51,52,52,52,53,52,54,52,55,52,56,52,57,53,48,53,49,53,50,53,51,53,52,53,53,53,54,
 53,55,53,56,53,57,54,48,54,49,54,50,54,51,54,52,54,53,54,54,54,55,54,56,54,57,55,48,55,49,55,50,55,51,55,52,55,53,55,54,55,55,55,56,55,57,
 56,48,56,49,56,50,56,51,56,52,56,53,56,54,56,55,56,56,56,57,57,48,57,49,57,50,57,51,57,52,57,53,57,54,57,55,57,56,57,57])) 90)),.op 13 (p 93
 (.Zu 1 84 86)),.op 14 (w0 (.store 1 93 91))]) (.seq (.Zd [0,1,4]) (.Ze [p 94 (.Za 4),p 95 (.bin .sub 94 (.k (.int .i64 8))),p 4 (.Za 95)])))))))))))))))))))
def Ws:Qa:=⟨2,[],(.seq (.Ze [p 17 (.Za 0),p 18 (.lenOf false 17),p 4 (.Za 18)]) (.seq (.block 0 (.loop Of)) (.seq (.Zd [0,1,4])
 (.seq (.Ze [p 96 (.Za 1),p 97 (.conv .u32 96),p 12 (.Za 97)]) (.seq (.seq (.Ze [p 98 (.Za 4),p 99 (.bin .geq 98 (.k (.int .i64 4)))]) (.cond 99 (.seq (.Ze [p 100 (.Za 12),
 p 101 (.bin .rem 100 (.k (.int .u32 10000))),p 13 (.Za 101)]) (.seq (.Ze [p 102 (.Za 12),p 103 (.bin .quo 102 (.k (.int .u32 10000))),p 12 (.Za 103)]) (.seq (.Ze [p 104 (.Za
 13),p 105 (.bin .quo 104 (.k (.int .u32 100))),p 106 (.bin .mul 105 (.k (.int .u32 2))),p 107 (.Za 13),p 108 (.bin .rem 107 (.k (.int .u32 100))),p 109 (.bin .mul 108 (.k (.int
 .u32 2))),p 14 (.Za 106),p 15 (.Za 109)]) (.seq (.Zd [0,4,12,14,15]) (.seq (.Kv [.op 0 (p 110 (.Za 0)),.op 1 (p 111 (.Za 4)),.op 2 (p 112 (.bin .sub 111 (.k (.int .i64
 1)))),.op 6 (p 116 (.Za 15)),.op 7 (p 117 (.bin .add 116 (.k (.int .u32 1)))),.op 8 (p 118 (.J7 (.k (.str [48,48,48,49,48,50,48,51,48,52,48,53,48,54,48,55,48,
 56,48,57,49,48,49,49,49,50,49,51,49,52,49,53,49,54,49,55,49,56,49,57,50,48,50,49,50,50,50,51,50,52,50,53,50,54,50,55,50,56,50,57,51,48,51,
 49,51,50,51,51,51,52,51,53,51,54,51,55,51,56,51,57,52,48,52,49,52,50,52,51,52,52,52,53,52,54,52,55,52,56,52,57,53,48,53,49,53,50,53,51,53,
 52,53,53,53,54,53,55,53,56,53,57,54,48,54,49,54,50,54,51,54,52,54,53,54,54,54,55,54,56,54,57,55,48,55,49,55,50,55,51,55,52,55,53,55,54,55,
 55,55,56,55,57,56,48,56,49,56,50,56,51,56,52,56,53,56,54,56,55,56,56,56,57,57,48,57,49,57,50,57,51,57,52,57,53,57,54,57,55,57,56,57,57]))
 117)),.op 11 (p 121 (.Zu 1 110 112)),.op 12 (w0 (.store 1 121 118)),.op 3 (p 113 (.Za 0)),.op 4 (p 114 (.Za 4)),.op 5 (p 115 (.bin .sub 114 (.k (.int .i64 2)))),.op 9 (p
 119 (.Za 15)),.op 10 (p 120 (.J7 (.k (.str [48,48,48,49,48,50,48,51,48,52,48,53,48,54,48,55,48,56,48,57,49,48,49,49,49,50,49,51,49,52,49,53,49,54,
 49,55,49,56,49,57,50,48,50,49,50,50,50,51,50,52,50,53,50,54,50,55,50,56,50,57,51,48,51,49,51,50,51,51,51,52,51,53,51,54,51,55,51,56,51,57,
 52,48,52,49,52,50,52,51,52,52,52,53,52,54,52,55,52,56,52,57,53,48,53,49,53,50,53,51,53,52,53,53,53,54,53,55,53,56,53,57,54,48,54,49,54,50,
 54,51,54,52,54,53,54,54,54,55,54,56,54,57,55,48,55,49,55,50,55,51,55,52,55,53,55,54,55,55,55,56,55,57,56,48,56,49,56,50,56,51,56,52,56,53,
 56,54,56,55,56,56,56,57,57,48,57,49,57,50,57,51,57,52,57,53,57,54,57,55,57,56,57,57])) 119)),.op 13 (p 122 (.Zu 1 113 115)),.op 14 (w0 (.store 1 122
 120))]) (.seq (.Zd [0,4,12,14]) (.seq (.Kv [.op 0 (p 123 (.Za 0)),.op 1 (p 124 (.Za 4)),.op 2 (p 125 (.bin .sub 124 (.k (.int .i64 3)))),.op 6 (p 129 (.Za 14)),.op 7 (p
 130 (.bin .add 129 (.k (.int .u32 1)))),.op 8 (p 131 (.J7 (.k (.str [48,48,48,49,48,50,48,51,48,52,48,53,48,54,48,55,48,56,48,57,49,48,49,49,49,50,49,51,
 49,52,49,53,49,54,49,55,49,56,49,57,50,48,50,49,50,50,50,51,50,52,50,53,50,54,50,55,50,56,50,57,51,48,51,49,51,50,51,51,51,52,51,53,51,54,
 51,55,51,56,51,57,52,48,52,49,52,50,52,51,52,52,52,53,52,54,52,55,52,56,52,57,53,48,53,49,53,50,53,51,53,52,53,53,53,54,53,55,53,56,53,57,
 54,48,54,49,54,50,54,51,54,52,54,53,54,54,54,55,54,56,54,57,55,48,55,49,55,50,55,51,55,52,55,53,55,54,55,55,55,56,55,57,56,48,56,49,56,50,
 56,51,56,52,56,53,56,54,56,55,56,56,56,57,57,48,57,49,57,50,57,51,57,52,57,53,57,54,57,55,57,56,57,57])) 130)),.op 11 (p 134 (.Zu 1 123 125)),
 .op 12 (w0 (.store 1 134 131)),.op 3 (p 126 (.Za 0)),.op 4 (p 127 (.Za 4)),.op 5 (p 128 (.bin .sub 127 (.k (.int .i64 4)))),.op 9 (p 132 (.Za 14)),.op 10 (p 133 (.J7 (.k (.str
 [48,48,48,49,48,50,48,51,48,52,48,53,48,54,48,55,48,56,48,57,49,48,49,49,49,50,49,51,49,52,49,53,49,54,49,55,49,56,49,57,50,48,50,49,50,
 50,50,51,50,52,50,53,50,54,50,55,50,56,50,57,51,48,51,49,51,50,51,51,51,52,51,53,51,54,51,55,51,56,51,57,52,48,52,49,52,50,52,51,52,52,52,
 53,52,54,52,55,52,56,52,57,53,48,53,49,53,50,53,51,53,52,53,53,53,54,53,55,53,56,53,57,54,48,54,49,54,50,54,51,54,52,54,53,54,54,54,55,54,
 56,54,57,55,48,55,49,55,50,55,51,55,52,55,53,55,54,55,55,55,56,55,57,56,48,56,49,56,50,56,51,56,52,56,53,56,54,56,55,56,56,56,57,57,48,57,
 49,57,50,57,51,57,52,57,53,57,54,57,55,57,56,57,57])) 132)),.op 13 (p 135 (.Zu 1 126 128)),.op 14 (w0 (.store 1 135 133))]) (.seq (.Zd [0,4,12]) (.Ze [p 136
 (.Za 4),p 137 (.bin .sub 136 (.k (.int .i64 4))),p 4 (.Za 137)]))))))))) .skip)) (.seq (.Zd [0,4,12]) (.seq (.seq (.Ze [p 138 (.Za 4),p 139 (.bin .geq 138 (.k (.int .i64
 2)))]) (.cond 139 (.seq (.Ze [p 140 (.Za 12),p 141 (.bin .rem 140 (.k (.int .u32 100))),p 142 (.bin .mul 141 (.k (.int .u32 2))),p 16 (.Za 142)]) (.seq (.Ze [p 143 (.Za 12),
 p 144 (.bin .quo 143 (.k (.int .u32 100))),p 12 (.Za 144)]) (.seq (.Kv [.op 0 (p 145 (.Za 0)),.op 1 (p 146 (.Za 4)),.op 2 (p 147 (.bin .sub 146 (.k (.int .i64 1)))),.op 6 (p
 151 (.Za 16)),.op 7 (p 152 (.bin .add 151 (.k (.int .u32 1)))),.op 8 (p 153 (.J7 (.k (.str [48,48,48,49,48,50,48,51,48,52,48,53,48,54,48,55,48,56,48,57,49,
 48,49,49,49,50,49,51,49,52,49,53,49,54,49,55,49,56,49,57,50,48,50,49,50,50,50,51,50,52,50,53,50,54,50,55,50,56,50,57,51,48,51,49,51,50,51,
 51,51,52,51,53,51,54,51,55,51,56,51,57,52,48,52,49,52,50,52,51,52,52,52,53,52,54,52,55,52,56,52,57,53,48,53,49,53,50,53,51,53,52,53,53,53,
 54,53,55,53,56,53,57,54,48,54,49,54,50,54,51,54,52,54,53,54,54,54,55,54,56,54,57,55,48,55,49,55,50,55,51,55,52,55,53,55,54,55,55,55,56,55,
 57,56,48,56,49,56,50,56,51,56,52,56,53,56,54,56,55,56,56,56,57,57,48,57,49,57,50,57,51,57,52,57,53,57,54,57,55,57,56,57,57])) 152)),.op 11 (p
 156 (.Zu 1 145 147)),.op 12 (w0 (.store 1 156 153)),.op 3 (p 148 (.Za 0)),.op 4 (p 149 (.Za 4)),.op 5 (p 150 (.bin .sub 149 (.k (.int .i64 2)))),.op 9 (p 154 (.Za 16)),
 .op 10 (p 155 (.J7 (.k (.str [48,48,48,49,48,50,48,51,48,52,48,53,48,54,48,55,48,56,48,57,49,48,49,49,49,50,49,51,49,52,49,53,49,54,49,55,49,56,
 49,57,50,48,50,49,50,50,50,51,50,52,50,53,50,54,50,55,50,56,50,57,51,48,51,49,51,50,51,51,51,52,51,53,51,54,51,55,51,56,51,57,52,48,52,49,
 52,50,52,51,52,52,52,53,52,54,52,55,52,56,52,57,53,48,53,49,53,50,53,51,53,52,53,53,53,54,53,55,53,56,53,57,54,48,54,49,54,50,54,51,54,52,
 54,53,54,54,54,55,54,56,54,57,55,48,55,49,55,50,55,51,55,52,55,53,55,54,55,55,55,56,55,57,56,48,56,49,56,50,56,51,56,52,56,53,56,54,56,55,
 56,56,56,57,57,48,57,49,57,50,57,51,57,52,57,53,57,54,57,55,57,56,57,57])) 154)),.op 13 (p 157 (.Zu 1 148 150)),.op 14 (w0 (.store 1 157 155))]) (.seq (.Zd
 [0,4,12]) (.Ze [p 158 (.Za 4),p 159 (.bin .sub 158 (.k (.int .i64 2))),p 4 (.Za 159)]))))) .skip)) (.seq (.Zd [0,4,12]) (.seq (.Ze [p 160 (.Za 4),p 161 (.bin .gtr 160
 (.k (.int .i64 0)))]) (.cond 161 (.Ze [p 162 (.Za 0),p 163 (.Za 12),p 164 (.bin .add (.k (.int .u32 48)) 163),p 165 (.conv .u8 164),p 166 (.Zu 1 162 (.k (.int .i64 0))),
 w0 (.store 1 166 165)]) .skip))))))))))⟩
def Y3:Zv:=(.seq (.Zd [0,1,3,4,10,11,12,13,14,15,16]) (.seq (.seq (.Ze [p 44 (.Za 1),p 45 (.Za 15),p 46 (.bin .geq 44 45)]) (.cond 46 .skip
 (.exit 0))) (.block 1 (.seq (.Ze [p 47 (.Za 13),p 48 (.bin .sub 47 (.k (.int .i64 1))),p 13 (.Za 48)]) (.seq (.Ze [p 49 (.Za 13),p 50 (.Za 1),p 51 (.Za 16),p 52 (.bin .and
 50 51),p 53 (.J7 (.k (.str [48,49,50,51,52,53,54,55,56,57,97,98,99,100,101,102,103,104,105,106,107,108,109,110,111,112,113,114,115,116,117,118,119,
 120,121,122])) 52),p 54 (.Nq 65 1 12 49),w0 (.store 1 54 53)]) (.Ze [p 55 (.Za 1),p 56 (.Za 14),p 57 (.bin .shr 55 56),p 1 (.Za 57)]))))))
def Y4:Zv:=(.seq (.Zd [0,1,3,4,10,11,12,13,17]) (.seq (.seq (.Ze [p 66 (.Za 1),p 67 (.Za 17),p 68 (.bin .geq 66 67)]) (.cond 68 .skip (.exit
 2))) (.block 3 (.seq (.Ze [p 69 (.Za 13),p 70 (.bin .sub 69 (.k (.int .i64 1))),p 13 (.Za 70)]) (.seq (.Ze [p 71 (.Za 1),p 72 (.Za 17),p 73 (.bin .quo 71 72),p 18 (.Za 73)])
 (.seq (.Ze [p 74 (.Za 13),p 75 (.Za 1),p 76 (.Za 18),p 77 (.Za 17),p 78 (.bin .mul 76 77),p 79 (.bin .sub 75 78),p 80 (.J7 (.k (.str [48,49,50,51,52,53,54,55,56,
 57,97,98,99,100,101,102,103,104,105,106,107,108,109,110,111,112,113,114,115,116,117,118,119,120,121,122])) 79),p 81 (.Nq 65 1 12 74),w0 (.store 1 81
 80)]) (.seq (.Zd [0,3,4,10,11,12,13,17,18]) (.Ze [p 82 (.Za 18),p 1 (.Za 82)]))))))))
def Vd:Qa:=⟨5,[.t 10,.t 11],(.seq (.Ze [p 10 (.Za (.k .Zc)),p 11 (.Za (.k (.str [])))]) (.seq (.seq (.Ze [p 19 (.Za 2),p 20 (.bin .lss 19 (.k (.int
 .i64 2))),p 21 (.Za 20),pg 22 21 false (.Za 2),pg 23 21 false (.bin .eql 22 (.k (.int .i64 10))),p 24 (.pick 21 (.k (.bool true)) 23),p 25 (.Za 24),pg 26 25 false (.Za 2),
 pg 27 25 false (.bin .gtr 26 (.k (.int .i64 36))),p 28 (.pick 25 (.k (.bool true)) 27)]) (.seq (.Zd [0,1,2,3,4,10,11,28]) (.cond 28 (.Ze [p 29 (.iface 9 (.k (.str [115,116,
 114,99,111,110,118,58,32,105,108,108,101,103,97,108,32,65,112,112,101,110,100,73,110,116,47,70,111,114,109,97,116,73,110,116,32,98,97,115,101]))),
 p0 (.stuck)]) .skip))) (.seq (.Zd [0,1,2,3,4,10,11]) (.seq (.Ze [n 12 (.alloc 246 false (List.replicate 65 (.int .u8 0)))]) (.seq (.Ze [p 13 (.Za (.k (.int .i64 65)))]) (.seq
 (.seq (.Ze [p 30 (.Za 3)]) (.cond 30 (.Ze [p 31 (.Za 1),p 32 (.un .neg 31),p 1 (.Za 32)]) .skip)) (.seq (.seq (.Ze [p 33 (.Za 2),w 34 (.call (.k (.fn 449 [] [])) [33])]) (.cond
 34 (.seq (.Ze [p 35 (.Za 2),p 36 (.conv .u64 35),w 37 (.call (.k (.fn 450 [] [])) [36]),p 38 (.conv .u64 37),p 14 (.Za 38)]) (.seq (.Ze [p 39 (.Za 2),p 40 (.conv .u64 39),
 p 15 (.Za 40)]) (.seq (.Ze [p 41 (.Za 2),p 42 (.conv .u64 41),p 43 (.bin .sub 42 (.k (.int .u64 1))),p 16 (.Za 43)]) (.seq (.block 0 (.loop Y3)) (.seq (.Zd
 [0,1,3,4,10,11,12,13]) (.seq (.Ze [p 58 (.Za 13),p 59 (.bin .sub 58 (.k (.int .i64 1))),p 13 (.Za 59)]) (.Ze [p 60 (.Za 13),p 61 (.Za 1),p 62 (.J7 (.k (.str [48,
 49,50,51,52,53,54,55,56,57,97,98,99,100,101,102,103,104,105,106,107,108,109,110,111,112,113,114,115,116,117,118,119,120,121,122])) 61),p 63 (.Nq
 65 1 12 60),w0 (.store 1 63 62)]))))))) (.seq (.Ze [p 64 (.Za 2),p 65 (.conv .u64 64),p 17 (.Za 65)]) (.seq (.block 2 (.loop Y4)) (.seq (.Zd [0,1,3,4,
 10,11,12,13]) (.seq (.Ze [p 83 (.Za 13),p 84 (.bin .sub 83 (.k (.int .i64 1))),p 13 (.Za 84)]) (.Ze [p 85 (.Za 13),p 86 (.Za 1),p 87 (.J7 (.k (.str [48,49,50,51,52,
 53,54,55,56,57,97,98,99,100,101,102,103,104,105,106,107,108,109,110,111,112,113,114,115,116,117,118,119,120,121,122])) 86),p 88 (.Nq 65 1 12 85),
 w0 (.store 1 88 87)]))))))) (.seq (.Zd [0,3,4,10,11,12,13]) (.seq (.seq (.Ze [p 89 (.Za 3)]) (.cond 89 (.seq (.Ze [p 90 (.Za 13),p 91 (.bin .sub 90 (.k (.int .i64 1))),
 p 13 (.Za 91)]) (.Ze [p 92 (.Za 13),p 93 (.Nq 65 1 12 92),w0 (.store 1 93 (.k (.int .u8 45)))])) .skip)) (.seq (.seq (.Ze [p 94 (.Za 4)]) (.cond 94 (.seq (.Ze [p 95 (.Za
 0),p 96 (.Za 13),p 97 (.Zmf 65 1 12 (some 96) none none),w 98 (.append 5 1 1 [(.int .u8 0)] 95 97),p 10 (.Za 98)]) .ret) .skip)) (.seq (.Ze [p 99 (.Za 13),p 100 (.Zmf 65
 1 12 (some 99) none none),r 101 (.b2s 100),p 11 (.Za 101)]) .ret)))))))))))⟩
def K9:Zv:=(.seq (.Zd [0,1,7,8]) (.seq (.Ze [p 9 (.bin .lss 8 7)]) (.seq (.cond 9 .skip (.exit 0)) (.seq (.block 1 (.seq (.Ze [p 10 (.Za 8),p 5
 (.Za 10)]) (.seq (.Ze [p 11 (.Za 1),p 12 (.Za 0),p 13 (.Za 5),p 14 (.Zu 1 12 13),r 15 (.load none 14),p 16 (.bin .eql 11 15)]) (.cond 16 (.seq (.Ze [p 17 (.Za 5),p
 4 (.Za 17)]) .ret) .skip)))) (.seq (.Zd [0,1,7,8]) (.Ze [p 18 (.bin .add 8 (.k (.int .i64 1))),p 8 (.Za 18)]))))))
def Kf:Qa:=⟨2,[.t 4],(.seq (.Ze [p 4 (.Za (.k (.int .i64 0)))]) (.seq (.seq (.Ze [p 6 (.Za 0),p 7 (.lenOf false 6),p 8 (.Za (.k (.int .i64 0)))]) (.block
 0 (.loop K9))) (.seq (.Zd []) (.seq (.Ze [p 4 (.Za (.k (.int .i64 (-1))))]) .ret))))⟩
def Rb:Qa:=⟨1,[.t 2],(.seq (.Ze [p 2 (.Za (.k (.int .i64 0)))]) (.seq (.seq (.Ze [p 3 (.Za 0),p 4 (.bin .geq 3 (.k (.int .u64 4294967296)))]) (.cond 4 (.seq
 (.Ze [p 5 (.Za 0),p 6 (.bin .shr 5 (.k (.int .u64 32))),p 0 (.Za 6)]) (.Ze [p 2 (.Za (.k (.int .i64 32)))])) .skip)) (.seq (.seq (.Ze [p 7 (.Za 0),p 8 (.bin .geq 7 (.k (.int
 .u64 65536)))]) (.cond 8 (.seq (.Ze [p 9 (.Za 0),p 10 (.bin .shr 9 (.k (.int .u64 16))),p 0 (.Za 10)]) (.Ze [p 11 (.Za 2),p 12 (.bin .add 11 (.k (.int .i64 16))),p 2 (.Za
 12)])) .skip)) (.seq (.Zd [0,2]) (.seq (.seq (.Ze [p 13 (.Za 0),p 14 (.bin .geq 13 (.k (.int .u64 256)))]) (.cond 14 (.seq (.Ze [p 15 (.Za 0),p 16 (.bin .shr 15 (.k (.int .u64
 8))),p 0 (.Za 16)]) (.Ze [p 17 (.Za 2),p 18 (.bin .add 17 (.k (.int .i64 8))),p 2 (.Za 18)])) .skip)) (.seq (.Zd [0,2]) (.seq (.Ze [p 19 (.Za 2),p 20 (.Za 0),p 21 (.conv
 .u8 20),p 22 (.J7 (.k (.str [0,1,2,2,3,3,3,3,4,4,4,4,4,4,4,4,5,5,5,5,5,5,5,5,5,5,5,5,5,5,5,5,6,6,6,6,6,6,6,6,6,6,6,6,6,6,6,6,6,6,
 6,6,6,6,6,6,6,6,6,6,6,6,6,6,7,7,7,7,7,7,7,7,7,7,7,7,7,7,7,7,7,7,7,7,7,7,7,7,7,7,7,7,7,7,7,7,7,7,7,7,7,7,7,7,7,7,7,7,7,7,7,
 7,7,7,7,7,7,7,7,7,7,7,7,7,7,7,7,7,8,8,8,8,8,8,8,8,8,8,8,8,8,8,8,8,8,8,8,8,8,8,8,8,8,8,8,8,8,8,8,8,8,8,8,8,8,8,8,8,8,8,8,8,
 8,8,8,8,8,8,8,8,8,8,8,8,8,8,8,8,8,8,8,8,8,8,8,8,8,8,8,8,8,8,8,8,8,8,8,8,8,8,8,8,8,8,8,8,8,8,8,8,8,8,8,8,8,8,8,8,8,8,8,8,8,
 8,8,8,8,8,8,8,8,8,8,8,8,8,8,8,8,8,8,8,8,8,8,8])) 21),p 23 (.conv .i64 22),p 24 (.bin .add 19 23),p 2 (.Za 24)]) .ret)))))))⟩
def L8:Qa:=⟨1,[.t 2],(.seq (.Ze [p 2 (.Za (.k (.int .i64 0)))]) (.seq (.Ze [p 3 (.Za 0),p 4 (.bin .mul 3 (.k (.int .i64 78913))),p 5 (.bin .shr 4 (.k (.int
 .u64 18))),p 2 (.Za 5)]) .ret))⟩
def L7:Qa:=⟨1,[.t 2],(.seq (.Ze [p 2 (.Za (.k (.int .i64 0)))]) (.seq (.seq (.Ze [p 3 (.Za 0)]) (.cond 3 (.seq (.Ze [p 2 (.Za (.k (.int .i64 1)))]) .ret)
 .skip)) (.seq (.Ze [p 2 (.Za (.k (.int .i64 0)))]) .ret)))⟩
def Ya:Qa:=⟨1,[.t 2],(.seq (.Ze [p 2 (.Za (.k (.bool false)))]) (.seq (.Ze [p 3 (.Za 0),p 4 (.Za 0),p 5 (.bin .sub 4 (.k (.int .i64 1))),p 6 (.bin
 .and 3 5),p 7 (.bin .eql 6 (.k (.int .i64 0))),p 2 (.Za 7)]) .ret))⟩
def J9:Qa:=⟨1,[.t 2],(.seq (.Ze [p 2 (.Za (.k (.int .i64 0)))]) (.seq (.cond (.k (.bool false)) (.seq (.Ze [p 3 (.Za 0),p 4 (.conv .u32 3),w 5 (.call
 (.k (.fn 451 [] [])) [4]),p 2 (.Za 5)]) .ret) .skip) (.seq (.Ze [p 6 (.Za 0),w 7 (.call (.k (.fn 452 [] [])) [6]),p 2 (.Za 7)]) .ret)))⟩
def Yx:Qa:=⟨1,[.t 2],(.seq (.Ze [p 2 (.Za (.k (.int .i64 0)))]) (.seq (.seq (.Ze [p 3 (.Za 0),p 4 (.bin .eql 3 (.k (.int .u32 0)))]) (.cond 4 (.seq
 (.Ze [p 2 (.Za (.k (.int .i64 32)))]) .ret) .skip)) (.seq (.Ze [p 5 (.Za 0),p 6 (.Za 0),p 7 (.un .neg 6),p 8 (.bin .and 5 7),p 9 (.bin .mul 8 (.k (.int .u32 125613361))),p
 10 (.bin .shr 9 (.k (.int .u64 27))),r 11 (.Sa 5 32 1 10),r 12 (.load none 11),p 13 (.conv .i64 12),p 2 (.Za 13)]) .ret)))⟩
def Qk:Qa:=⟨1,[.t 2],(.seq (.Ze [p 2 (.Za (.k (.int .i64 0)))]) (.seq (.seq (.Ze [p 3 (.Za 0),p 4 (.bin .eql 3 (.k (.int .u64 0)))]) (.cond 4 (.seq
 (.Ze [p 2 (.Za (.k (.int .i64 64)))]) .ret) .skip)) (.seq (.Ze [p 5 (.Za 0),p 6 (.Za 0),p 7 (.un .neg 6),p 8 (.bin .and 5 7),p 9 (.bin .mul 8 (.k (.int .u64 285870213051353865))),
 p 10 (.bin .shr 9 (.k (.int .u64 58))),r 11 (.Sa 6 64 1 10),r 12 (.load none 11),p 13 (.conv .i64 12),p 2 (.Za 13)]) .ret)))⟩
structure B9 (T:Tab):Prop where
 en:T.en 384=some Vn
structure Fa (T:Tab):Prop where
 en:T.en 396=some Vo
structure Ef (T:Tab):Prop where
 en:T.en 403=some K1
structure Cr (T:Tab):Prop where
 e:T.en 301=none
 f:T.fn 301=some Qz
structure Md (T:Tab):Prop where
 e:T.en 306=none
 f:T.fn 306=some Y7
structure Cs (T:Tab):Prop where
 e:T.en 307=none
 f:T.fn 307=some Xt
structure Up (T:Tab):Prop where
 e:T.en 311=none
 f:T.fn 311=some Q7
structure Gb (T:Tab):Prop where
 e:T.en 325=none
 f:T.fn 325=some U6
structure E7 (T:Tab):Prop where
 e:T.en 327=none
 f:T.fn 327=some Lb
structure Ft (T:Tab):Prop where
 e:T.en 328=none
 f:T.fn 328=some Xi
structure Gl (T:Tab):Prop where
 e:T.en 329=none
 f:T.fn 329=some Wn
structure Oo (T:Tab):Prop where
 e:T.en 330=none
 f:T.fn 330=some Hl
structure Oq (T:Tab):Prop where
 e:T.en 331=none
 f:T.fn 331=some Hm
structure Ot (T:Tab):Prop where
 e:T.en 332=none
 f:T.fn 332=some Hn
structure Ou (T:Tab):Prop where
 e:T.en 333=none
 f:T.fn 333=some Ho
structure Ov (T:Tab):Prop where
 e:T.en 335=none
 f:T.fn 335=some Hp
structure Ow (T:Tab):Prop where
 e:T.en 336=none
 f:T.fn 336=some Hq
structure Ox (T:Tab):Prop where
 e:T.en 337=none
 f:T.fn 337=some Hr
structure X7 (T:Tab):Prop where
 e:T.en 343=none
 f:T.fn 343=some Kp
structure Gp (T:Tab):Prop where
 e:T.en 344=none
 f:T.fn 344=some Uw
structure Oy (T:Tab):Prop where
 e:T.en 346=none
 f:T.fn 346=some Hs
 Kp:X7 T
structure Y5 (T:Tab):Prop where
 e:T.en 358=none
 f:T.fn 358=some Q2
structure Lm (T:Tab):Prop where
 e:T.en 360=none
 f:T.fn 360=some Jo
structure Cu (T:Tab):Prop where
 e:T.en 362=none
 f:T.fn 362=some Xx
structure Cv (T:Tab):Prop where
 e:T.en 363=none
 f:T.fn 363=some M6
 strconv_FormatBool:Ef T
structure Cw (T:Tab):Prop where
 e:T.en 364=none
 f:T.fn 364=some M7
 strconv_Itoa:C3 T
structure Ge (T:Tab):Prop where
 e:T.en 375=none
 f:T.fn 375=some U8
structure Mi (T:Tab):Prop where
 e:T.en 379=none
 f:T.fn 379=some Va
structure Nj (T:Tab):Prop where
 e:T.en 380=none
 f:T.fn 380=some Vw
structure Gf (T:Tab):Prop where
 e:T.en 383=none
 f:T.fn 383=some Qc
structure Mf (T:Tab):Prop where
 e:T.en 389=none
 f:T.fn 389=some Kz
structure Ly (T:Tab):Prop where
 e:T.en 397=none
 f:T.fn 397=some Kg
structure Lz (T:Tab):Prop where
 e:T.en 398=none
 f:T.fn 398=some Kh
structure Ru (T:Tab):Prop where
 e:T.en 399=none
 f:T.fn 399=some J3
structure Mz (T:Tab):Prop where
 e:T.en 401=none
 f:T.fn 401=some Vh
structure Ll (T:Tab):Prop where
 e:T.en 402=none
 f:T.fn 402=some J1
 Jo:Lm T
structure Lq (T:Tab):Prop where
 e:T.en 417=none
 f:T.fn 417=some Ys
structure Tl (T:Tab):Prop where
 e:T.en 418=none
 f:T.fn 418=some Hy
structure O2 (T:Tab):Prop where
 e:T.en 419=none
 f:T.fn 419=some Rs
structure E9 (T:Tab):Prop where
 e:T.en 421=none
 f:T.fn 421=some Lg
structure Lr (T:Tab):Prop where
 e:T.en 425=none
 f:T.fn 425=some Yt
structure C1 (T:Tab):Prop where
 e:T.en 427=none
 f:T.fn 427=some Nc
structure Da (T:Tab):Prop where
 e:T.en 428=none
 f:T.fn 428=some Lh
structure He (T:Tab):Prop where
 e:T.en 439=none
 f:T.fn 439=some Yk
structure Me (T:Tab):Prop where
 e:T.en 440=none
 f:T.fn 440=some Ky
structure Hf (T:Tab):Prop where
 e:T.en 441=none
 f:T.fn 441=some Xa
structure P8 (T:Tab):Prop where
 e:T.en 442=none
 f:T.fn 442=some Ea
structure Gq (T:Tab):Prop where
 e:T.en 444=none
 f:T.fn 444=some Ws
structure Gn (T:Tab):Prop where
 e:T.en 446=none
 f:T.fn 446=some Kf
structure B8 (T:Tab):Prop where
 e:T.en 53=none
 f:T.fn 53=some Rb
structure Dh (T:Tab):Prop where
 e:T.en 447=none
 f:T.fn 447=some L8
structure Dg (T:Tab):Prop where
 e:T.en 448=none
 f:T.fn 448=some L7
structure Xq (T:Tab):Prop where
 e:T.en 449=none
 f:T.fn 449=some Ya
structure L1 (T:Tab):Prop where
 e:T.en 451=none
 f:T.fn 451=some Yx
structure L2 (T:Tab):Prop where
 e:T.en 452=none
 f:T.fn 452=some Qk
structure Cq (T:Tab):Prop where
 e:T.en 302=none
 f:T.fn 302=some Xs
 U6:Gb T
structure Ri (T:Tab):Prop where
 e:T.en 347=none
 f:T.fn 347=some Kl
 Kz:Mf T
structure Xn (T:Tab):Prop where
 e:T.en 354=none
 f:T.fn 354=some Uj
 Kg:Ly T
 Kh:Lz T
 J3:Ru T
structure Gc (T:Tab):Prop where
 e:T.en 356=none
 f:T.fn 356=some U7
 U8:Ge T
structure Lx (T:Tab):Prop where
 e:T.en 359=none
 f:T.fn 359=some V1
 J1:Ll T
structure W6 (T:Tab):Prop where
 e:T.en 381=none
 f:T.fn 381=some J4
 Ys:Lq T
structure Qr (T:Tab):Prop where
 e:T.en 382=none
 f:T.fn 382=some Zy
 Hy:Tl T
 Qc:Gf T
structure Jj (T:Tab):Prop where
 e:T.en 386=none
 f:T.fn 386=some Zx
 Rs:O2 T
 Uw:Gp T
structure U5 (T:Tab):Prop where
 e:T.en 432=none
 f:T.fn 432=some Ka
 Kf:Gn T
structure Di (T:Tab):Prop where
 e:T.en 443=none
 f:T.fn 443=some L9
 Rb:B8 T
 L8:Dh T
 L7:Dg T
structure U4 (T:Tab):Prop where
 e:T.en 450=none
 f:T.fn 450=some J9
 Yx:L1 T
 Qk:L2 T
structure Ux (T:Tab):Prop where
 e:T.en 310=none
 f:T.fn 310=some Zr
 U7:Gc T
structure Yf (T:Tab):Prop where
 e:T.en 326=none
 f:T.fn 326=some Qs
 Wn:Gl T
 Va:Mi T
 Vw:Nj T
 J4:W6 T
structure Rj (T:Tab):Prop where
 e:T.en 338=none
 f:T.fn 338=some K4
 Zy:Qr T
 Zx:Jj T
structure Gi (T:Tab):Prop where
 e:T.en 339=none
 f:T.fn 339=some Jr
 Zy:Qr T
 Zx:Jj T
structure Gh (T:Tab):Prop where
 e:T.en 341=none
 f:T.fn 341=some Wa
 Zy:Qr T
 Zx:Jj T
structure Xo (T:Tab):Prop where
 e:T.en 342=none
 f:T.fn 342=some K5
 Zy:Qr T
 Zx:Jj T
structure Ye (T:Tab):Prop where
 e:T.en 355=none
 f:T.fn 355=some Q8
 Zr:Ux T
 Kg:Ly T
 Kh:Lz T
structure Mj (T:Tab):Prop where
 e:T.en 422=none
 f:T.fn 422=some Vb
 Qs:Yf T
structure Gm (T:Tab):Prop where
 e:T.en 424=none
 f:T.fn 424=some Wc
 Qs:Yf T
structure L3 (T:Tab):Prop where
 e:T.en 426=none
 f:T.fn 426=some Yw
 Qs:Yf T
structure E5 (T:Tab):Prop where
 e:T.en 429=none
 f:T.fn 429=some X9
 Qs:Yf T
structure Mm (T:Tab):Prop where
 e:T.en 445=none
 f:T.fn 445=some Vd
 Ya:Xq T
 J9:U4 T
structure Ed (T:Tab):Prop where
 e:T.en 304=none
 f:T.fn 304=some W9
 Qs:Yf T
 Lb:E7 T
 Xi:Ft T
structure Gj (T:Tab):Prop where
 e:T.en 305=none
 f:T.fn 305=some Wb
 Qs:Yf T
 Wn:Gl T
structure Vq (T:Tab):Prop where
 e:T.en 309=none
 f:T.fn 309=some Ks
 Uj:Xn T
 Q8:Ye T
structure H4 (T:Tab):Prop where
 e:T.en 388=none
 f:T.fn 388=some Xl
 Lg:E9 T
 Vb:Mj T
structure Mh (T:Tab):Prop where
 e:T.en 391=none
 f:T.fn 391=some Yp
 Wc:Gm T
 Yt:Lr T
structure Dt (T:Tab):Prop where
 e:T.en 392=none
 f:T.fn 392=some Mu
 Yw:L3 T
 Nc:C1 T
structure H5 (T:Tab):Prop where
 e:T.en 393=none
 f:T.fn 393=some Xm
 Yw:L3 T
 Lh:Da T
structure H0 (T:Tab):Prop where
 e:T.en 400=none
 f:T.fn 400=some Xk
 W9:Ed T
 Ka:U5 T
structure E6 (T:Tab):Prop where
 e:T.en 430=none
 f:T.fn 430=some La
 Xk:H0 T
 Yk:He T
 Vh:Mz T
 Ky:Me T
 Xa:Hf T
structure Ha (T:Tab):Prop where
 e:T.en 431=none
 f:T.fn 431=some J2
 Ea:P8 T
 L9:Di T
 Ws:Gq T
 Vd:Mm T
structure C0 (T:Tab):Prop where
 e:T.en 345=none
 f:T.fn 345=some Na
 Wb:Gj T
 Xl:H4 T
structure Gk (T:Tab):Prop where
 e:T.en 350=none
 f:T.fn 350=some Wm
 Yp:Mh T
 Mu:Dt T
structure Db (T:Tab):Prop where
 e:T.en 351=none
 f:T.fn 351=some Li
 Yp:Mh T
 Xm:H5 T
structure Wh (T:Tab):Prop where
 e:T.en 357=none
 f:T.fn 357=some Kc
 Xk:H0 T
 Vh:Mz T
structure Cz (T:Tab):Prop where
 e:T.en 366=none
 f:T.fn 366=some M9
 Kc:Wh T
structure M0 (T:Tab):Prop where
 e:T.en 385=none
 f:T.fn 385=some Vj
 Qs:Yf T
 Yp:Mh T
structure L0 (T:Tab):Prop where
 e:T.en 394=none
 f:T.fn 394=some Kx
 X9:E5 T
 La:E6 T
 Zx:Jj T
structure Ml (T:Tab):Prop where
 e:T.en 395=none
 f:T.fn 395=some Vc
 J2:Ha T
structure E8 (T:Tab):Prop where
 e:T.en 404=none
 f:T.fn 404=some Ld
 Hw:Oz T
structure Fu (T:Tab):Prop where
 e:T.en 420=none
 f:T.fn 420=some Xj
 Kc:Wh T
structure Lp (T:Tab):Prop where
 e:T.en 334=none
 f:T.fn 334=some Jp
 Zy:Qr T
 Qc:Gf T
 Kc:Wh T
 strings_Compare:B9 T
 Vj:M0 T
 Kp:X7 T
 Zx:Jj T
structure Ni (T:Tab):Prop where
 e:T.en 348=none
 f:T.fn 348=some Vu
 Kc:Wh T
 Xl:H4 T
structure Cy (T:Tab):Prop where
 e:T.en 365=none
 f:T.fn 365=some M8
 Ld:E8 T
structure Ol (T:Tab):Prop where
 e:T.en 387=none
 f:T.fn 387=some Hi
 W9:Ed T
 Vj:M0 T
 Xj:Fu T
structure Ds (T:Tab):Prop where
 e:T.en 316=none
 f:T.fn 316=some Xw
 W9:Ed T
 Xx:Cu T
 M6:Cv T
 M7:Cw T
 M8:Cy T
 M9:Cz T
structure Rl (T:Tab):Prop where
 e:T.en 340=none
 f:T.fn 340=some Y9
 Zy:Qr T
 Hi:Ol T
 Kp:X7 T
 Zx:Jj T
structure Gg (T:Tab):Prop where
 e:T.en 352=none
 f:T.fn 352=some U9
 Zy:Qr T
 Xw:Ds T
 Kx:L0 T
structure Rk (T:Tab):Prop where
 e:T.en 353=none
 f:T.fn 353=some Ul
 Zy:Qr T
 Xw:Ds T
 Wm:Gk T
 Vc:Ml T
 Zh9:Fa T
 Kx:L0 T
structure Mg (T:Tab):Prop where
 e:T.en 423=none
 f:T.fn 423=some K0
 Kc:Wh T
 Hk:Om T
 Xm:H5 T
 Mu:Dt T
structure V9 (T:Tab):Prop where
 e:T.en 390=none
 f:T.fn 390=some Jh
 K0:Mg T
structure U3 (T:Tab):Prop where
 e:T.en 349=none
 f:T.fn 349=some Q0
 Jh:V9 T
structure Qq (T:Tab):Prop where
 e:T.en 308=none
 f:T.fn 308=some Qv
 Hl:Oo T
 Hm:Oq T
 Hn:Ot T
 Ho:Ou T
 Jp:Lp T
 Hp:Ov T
 Hq:Ow T
 Hr:Ox T
 K4:Rj T
 Jr:Gi T
 Y9:Rl T
 Wa:Gh T
 K5:Xo T
 Kp:X7 T
 Uw:Gp T
 Na:C0 T
 Hs:Oy T
 Kl:Ri T
 Vu:Ni T
 Q0:U3 T
 Wm:Gk T
 Li:Db T
 U9:Gg T
 Ul:Rk T
structure Rg (T:Tab):Prop where
 e:T.en 312=none
 f:T.fn 312=some Ja
 Qv:Qq T
structure Nf (T:Tab):Prop where
 e:T.en 313=none
 f:T.fn 313=some Yi
 Qv:Qq T
 Kc:Wh T
structure Rf (T:Tab):Prop where
 e:T.en 314=none
 f:T.fn 314=some Y6
 Qv:Qq T
 Q2:Y5 T
 V1:Lx T
structure Rh (T:Tab):Prop where
 e:T.en 300=none
 f:T.fn 300=some Ui
 Y7:Md T
 Xs:Cq T
 Qz:Cr T
 Xt:Cs T
 Ja:Rg T
 Yi:Nf T
 Y6:Rf T
structure Hd (T:Tab):Prop where
 e:T.en 303=none
 f:T.fn 303=some Kb
 Qv:Qq T
structure Wu (T:Tab):Prop where
 e:T.en 295=none
 f:T.fn 295=some Yh
 Ui:Rh T
 Ks:Vq T
 Zr:Ux T
 Kb:Hd T
 Q7:Up T
end Go.Ev.B
