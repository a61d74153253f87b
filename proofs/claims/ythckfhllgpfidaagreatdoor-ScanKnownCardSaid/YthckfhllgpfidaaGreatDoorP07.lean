/- The abstract bodies of the functions, printed by a program of this work. -/
import Derived.Test.YthckfhllgpfidaaGreatDoorP06
set_option linter.unusedSimpArgs false
set_option linter.unusedVariables false
set_option linter.unusedSectionVars false
namespace Go.Ev.B
open Go
def chaselaw04_ScanKnown:MFun:=⟨0,[.t 0],(.seq (.reg [p 0 (.mov (.k (.bool false)))]) (.seq (.seq (.reg [w 12 (.call (.k (.fn 157 [] [])) []),p 13 (.un .not 12)]) (.cond 13 (.seq
 (.reg [p 0 (.mov (.k (.bool false)))]) .ret) .skip)) (.seq (.reg [w 14 (.call (.k (.fn 13 [] [])) [(.k (.str [120])),(.k (.int .i64 101))]),p 1 (.mov 14)]) (.seq (.reg [w 15 (.call
 (.k (.fn 170 [] [])) [(.k (.str [40])),(.k (.int .i64 0)),(.k (.int .i64 37))]),p 16 (.mov 15),wg 17 16 true (.call (.k (.fn 170 [] [])) [(.k (.str [97,32,41])),(.k (.int .i64
 2)),(.k (.int .i64 37))]),p 18 (.pick 16 17 (.k (.bool false))),p 19 (.mov 18),wg 20 19 true (.call (.k (.fn 170 [] [])) [(.k (.str [60,126,33,126,62])),(.k (.int .i64 0)),
 (.k (.int .i64 37))]),p 21 (.pick 19 20 (.k (.bool false))),p 22 (.mov 21),wg 23 22 true (.call (.k (.fn 170 [] [])) [(.k (.str [60,52])),(.k (.int .i64 0)),(.k (.int .i64 37))]),
 p 24 (.pick 22 23 (.k (.bool false))),p 25 (.mov 24),pg 26 25 true (.mov 1),pg 27 25 true (.bin .add (.k (.str [49,32])) 26),wg 28 25 true (.call (.k (.fn 170 [] [])) [27,(.k
 (.int .i64 2)),(.k (.int .i64 26))]),p 29 (.pick 25 28 (.k (.bool false))),p 30 (.mov 29),pg 31 30 true (.mov 1),pg 32 30 true (.bin .add (.k (.str [47])) 31),wg 33 30 true (.call
 (.k (.fn 170 [] [])) [32,(.k (.int .i64 0)),(.k (.int .i64 26))]),p 34 (.pick 30 33 (.k (.bool false))),p 35 (.mov 34),pg 36 35 true (.mov 1),pg 37 35 true (.bin .add (.k (.str
 [47,47])) 36),wg 38 35 true (.call (.k (.fn 170 [] [])) [37,(.k (.int .i64 0)),(.k (.int .i64 26))]),p 39 (.pick 35 38 (.k (.bool false))),p 2 (.mov 39)]) (.seq (.keep [2]) (.seq
 (.reg [p 40 (.mov 2),p 41 (.mov 40),wg 42 41 true (.call (.k (.fn 170 [] [])) [(.k (.str [57,57,57,57,57,57,57,57,57,57,57])),(.k (.int .i64 0)),(.k (.int .i64 26))]),
 p 43 (.pick 41 42 (.k (.bool false))),p 44 (.mov 43),wg 45 44 true (.call (.k (.fn 13 [] [])) [(.k (.str [48,48])),(.k (.int .i64 1001))]),pg 46 44 true (.bin .add (.k (.str [60]))
 45),pg 47 44 true (.bin .add 46 (.k (.str [62]))),wg 48 44 true (.call (.k (.fn 170 [] [])) [47,(.k (.int .i64 0)),(.k (.int .i64 26))]),p 49 (.pick 44 48 (.k (.bool false))),
 p 50 (.mov 49),wg 51 50 true (.call (.k (.fn 13 [] [])) [(.k (.str [120])),(.k (.int .i64 1001))]),pg 52 50 true (.bin .add (.k (.str [133,3,233])) 51),wg 53 50 true (.call (.k
 (.fn 170 [] [])) [52,(.k (.int .i64 0)),(.k (.int .i64 26))]),p 54 (.pick 50 53 (.k (.bool false))),p 55 (.mov 54),wg 56 55 true (.call (.k (.fn 170 [] [])) [(.k (.str [135,2,
 49,50])),(.k (.int .i64 0)),(.k (.int .i64 37))]),p 57 (.pick 55 56 (.k (.bool false))),p 58 (.mov 57),wg 59 58 true (.call (.k (.fn 170 [] [])) [(.k (.str [134,1,91])),(.k
 (.int .i64 0)),(.k (.int .i64 37))]),p 60 (.pick 58 59 (.k (.bool false))),p 61 (.mov 60),wg 62 61 true (.call (.k (.fn 170 [] [])) [(.k (.str [128,0,0,0])),(.k (.int .i64 0)),
 (.k (.int .i64 37))]),p 63 (.pick 61 62 (.k (.bool false))),p 2 (.mov 63)]) (.seq (.keep [2]) (.seq (.reg [p 64 (.mov 2),p 65 (.mov 64),wg 66 65 true (.call (.k (.fn 168 [] []))
 [(.k (.str [])),(.k .nilslice)]),p 67 (.pick 65 66 (.k (.bool false))),p 68 (.mov 67),wg 69 68 true (.call (.k (.fn 168 [] [])) [(.k (.str [37])),(.k .nilslice)]),p 70 (.pick
 68 69 (.k (.bool false))),p 71 (.mov 70),wg 72 71 true (.call (.k (.fn 168 [] [])) [(.k (.str [32,0,12,37,97,13,37,98,10])),(.k .nilslice)]),p 73 (.pick 71 72 (.k (.bool
 false))),p 74 (.mov 73),pg 75 74 true (.build [(.int .i64 0),(.int .i64 0),(.str [])] [(0,1,(.k (.int .i64 4)))]),ng 76 74 true (.buildSl 134 1 [(.int .i64 0),(.int .i64 0),
 (.str [])] [(0,3,75)]),wg 77 74 true (.call (.k (.fn 168 [] [])) [(.k (.str [47])),76]),p 78 (.pick 74 77 (.k (.bool false))),p 79 (.mov 78),pg 80 79 true (.build [(.int .i64
 0),(.int .i64 0),(.str [])] [(0,1,(.k (.int .i64 5)))]),ng 81 79 true (.buildSl 134 1 [(.int .i64 0),(.int .i64 0),(.str [])] [(0,3,80)]),wg 82 79 true (.call (.k (.fn 168
 [] [])) [(.k (.str [47,47])),81]),p 83 (.pick 79 82 (.k (.bool false))),p 84 (.mov 83),wg 85 84 true (.call (.k (.fn 171 [] [])) [(.k (.str []))]),wg 86 84 true (.call (.k (.fn
 171 [] [])) [(.k (.str []))]),ng 87 84 true (.buildSl 134 2 [(.int .i64 0),(.int .i64 0),(.str []),(.int .i64 0),(.int .i64 0),(.str [])] [(0,3,85),(3,3,86)]),wg 88 84 true
 (.call (.k (.fn 168 [] [])) [(.k (.str [60,126,126,62,60,62])),87]),p 89 (.pick 84 88 (.k (.bool false))),p 90 (.mov 89),wg 91 90 true (.call (.k (.fn 172 [] [])) [(.k (.str
 [97]))]),wg 92 90 true (.call (.k (.fn 171 [] [])) [(.k (.str [98]))]),wg 93 90 true (.call (.k (.fn 172 [] [])) [(.k (.str [99]))]),ng 94 90 true (.buildSl 134 3 [(.int .i64 0),
 (.int .i64 0),(.str []),(.int .i64 0),(.int .i64 0),(.str []),(.int .i64 0),(.int .i64 0),(.str [])] [(0,3,91),(3,3,92),(6,3,93)]),wg 95 90 true (.call (.k (.fn 168
 [] [])) [(.k (.str [97,40,98,41,99])),94]),p 96 (.pick 90 95 (.k (.bool false))),p 2 (.mov 96)]) (.seq (.keep [2]) (.seq (.reg [p 97 (.mov 2),p 98 (.mov 97),wg 99 98 true (.call
 (.k (.fn 173 [] [])) [(.k (.int .i64 2147483647))]),wg 100 98 true (.call (.k (.fn 173 [] [])) [(.k (.int .i64 (-2147483648)))]),pg 101 98 true (.build [(.int .i64 0),(.int .i64
 0),(.str [])] [(0,1,(.k (.int .i64 2))),(1,1,(.k (.int .i64 (-65536))))]),ng 102 98 true (.buildSl 134 3 [(.int .i64 0),(.int .i64 0),(.str []),(.int .i64 0),(.int .i64 0),
 (.str []),(.int .i64 0),(.int .i64 0),(.str [])] [(0,3,99),(3,3,100),(6,3,101)]),wg 103 98 true (.call (.k (.fn 168 [] [])) [(.k (.str [128,127,255,255,255,128,128,
 0,0,0,131,255,255,0,0])),102]),p 104 (.pick 98 103 (.k (.bool false))),p 105 (.mov 104),wg 106 105 true (.call (.k (.fn 172 [] [])) [(.k (.str [160,255]))]),ng 107 105
 true (.buildSl 134 1 [(.int .i64 0),(.int .i64 0),(.str [])] [(0,3,106)]),wg 108 105 true (.call (.k (.fn 168 [] [])) [(.k (.str [160,255])),107]),p 109 (.pick 105 108 (.k (.bool
 false))),p 110 (.mov 109),wg 111 110 true (.call (.k (.fn 173 [] [])) [(.k (.int .i64 1))]),wg 112 110 true (.call (.k (.fn 172 [] [])) [(.k (.str [60,60]))]),wg 113 110 true (.call
 (.k (.fn 173 [] [])) [(.k (.int .i64 2))]),ng 114 110 true (.buildSl 134 3 [(.int .i64 0),(.int .i64 0),(.str []),(.int .i64 0),(.int .i64 0),(.str []),(.int .i64 0),(.int .i64
 0),(.str [])] [(0,3,111),(3,3,112),(6,3,113)]),wg 115 110 true (.call (.k (.fn 168 [] [])) [(.k (.str [49,135,2,60,60,50])),114]),p 116 (.pick 110 115 (.k (.bool false))),
 p 2 (.mov 116)]) (.seq (.keep [2]) (.seq (.reg [w 118 (.call (.k (.fn 13 [] [])) [(.k (.str [32])),(.k (.int .i64 65537))]),w 119 (.call (.k (.fn 158 [] [])) [118,(.k (.int .i64
 0))]),p 117 (.mov 119),p 120 (.extr 0 117),p 121 (.extr 1 117),p 122 (.extr 2 117),n 3 (.alloc 134 true [(.int .i64 0),(.int .i64 0),(.str [])]),w0 (.store 3 3 120),p 4 (.mov
 121),p 5 (.mov 122)]) (.seq (.keep [2,4,5]) (.seq (.reg [p 124 (.build [(.int .i64 0),(.int .i64 0),(.str [])] [(0,1,(.k (.int .i64 2))),(1,1,(.k (.int .i64 2147483648)))]),
 w 125 (.call (.k (.fn 166 [] [])) [124]),p 123 (.mov 125),p 126 (.extr 0 123),p 127 (.extr 1 123),p 6 (.mov 126),p 7 (.mov 127)]) (.seq (.reg [p 129 (.build [(.int .i64 0),(.int
 .i64 0),(.str [])] []),n 130 (.buildSl 134 1 [(.int .i64 0),(.int .i64 0),(.str [])] [(0,3,129)]),w 131 (.call (.k (.fn 165 [] [])) [130]),p 128 (.mov 131),p 132 (.extr 0 128),
 p 133 (.extr 1 128),p 8 (.mov 132),p 9 (.mov 133)]) (.seq (.keep [2,4,5,7,9]) (.seq (.reg [w 135 (.call (.k (.fn 13 [] [])) [(.k (.str [120])),(.k (.int .i64 256))]),w 136 (.call
 (.k (.fn 171 [] [])) [135]),w 137 (.call (.k (.fn 166 [] [])) [136]),p 134 (.mov 137),p 138 (.extr 0 134),p 139 (.extr 1 134),p 10 (.mov 138),p 11 (.mov 139)]) (.seq (.keep [2,
 4,5,7,9,10,11]) (.seq (.reg [w 140 (.call (.k (.fn 157 [] [])) []),p 141 (.mov 140),pg 142 141 true (.mov 2),p 143 (.pick 141 142 (.k (.bool false))),p 144 (.mov 143),pg 145
 144 true (.mov 5),pg 146 144 true (.bin .eql 145 (.k (.int .i64 3))),p 147 (.pick 144 146 (.k (.bool false))),p 148 (.mov 147),pg 149 148 true (.mov 4),pg 150 148 true (.bin .eql
 149 (.k (.int .i64 0))),p 151 (.pick 148 150 (.k (.bool false))),p 152 (.mov 151),pg 153 152 true (.mov 7),pg 154 152 true (.bin .eql 153 (.k (.int .i64 6))),p 155 (.pick 152 154
 (.k (.bool false))),p 156 (.mov 155),pg 157 156 true (.mov 9),pg 158 156 true (.bin .eql 157 (.k (.int .i64 130))),p 159 (.pick 156 158 (.k (.bool false))),p 160 (.mov 159),pg
 161 160 true (.mov 11),pg 162 160 true (.bin .eql 161 (.k (.int .i64 0))),p 163 (.pick 160 162 (.k (.bool false))),p 164 (.mov 163),pg 165 164 true (.mov 10),pg 166 164 true (.lenOf
 true 165),pg 167 164 true (.bin .eql 166 (.k (.int .i64 259))),p 168 (.pick 164 167 (.k (.bool false))),p 169 (.mov 168),pg 170 169 true (.mov 10),pg 171 169 true (.subS 170 none
 (some (.k (.int .i64 3)))),pg 172 169 true (.bin .eql 171 (.k (.str [133,1,0]))),p 173 (.pick 169 172 (.k (.bool false))),p 0 (.mov 173)]) .ret)))))))))))))))))))⟩
def chaselaw04_works:MFun:=⟨0,[.t 0],(.seq (.reg [p 0 (.mov (.k (.bool false)))]) (.seq (.reg [p 17 (.build [(.int .i64 0),(.int .i64 0),(.str [])] [(0,1,(.k (.int .i64 4))),
 (2,1,(.k (.str [97])))]),p 18 (.build [(.int .i64 0),(.int .i64 0),(.str [])] [(0,1,(.k (.int .i64 7)))]),w 19 (.call (.k (.fn 173 [] [])) [(.k (.int .i64 1))]),p 20 (.build
 [(.int .i64 0),(.int .i64 0),(.str [])] [(0,1,(.k (.int .i64 2))),(1,1,(.k (.int .i64 32768)))]),p 21 (.build [(.int .i64 0),(.int .i64 0),(.str [])] [(0,1,(.k (.int .i64
 8)))]),p 22 (.build [(.int .i64 0),(.int .i64 0),(.str [])] [(0,1,(.k (.int .i64 5))),(2,1,(.k (.str [98])))]),n 23 (.buildSl 134 6 [(.int .i64 0),(.int .i64 0),(.str []),
 (.int .i64 0),(.int .i64 0),(.str []),(.int .i64 0),(.int .i64 0),(.str []),(.int .i64 0),(.int .i64 0),(.str []),(.int .i64 0),(.int .i64 0),(.str []),(.int .i64 0),(.int
 .i64 0),(.str [])] [(0,3,17),(3,3,18),(6,3,19),(9,3,20),(12,3,21),(15,3,22)]),w 24 (.call (.k (.fn 168 [] [])) [(.k (.str [47,97,123,49,32,46,53,125,47,47,
 98])),23]),p 1 (.mov 24)]) (.seq (.keep [1]) (.seq (.reg [p 25 (.mov 1),p 26 (.mov 25),wg 27 26 true (.call (.k (.fn 172 [] [])) [(.k (.str [91]))]),wg 28 26 true (.call (.k (.fn
 172 [] [])) [(.k (.str [60,60]))]),wg 29 26 true (.call (.k (.fn 172 [] [])) [(.k (.str [62,62]))]),wg 30 26 true (.call (.k (.fn 172 [] [])) [(.k (.str [93]))]),wg 31 26 true
 (.call (.k (.fn 171 [] [])) [(.k (.str [121]))]),wg 32 26 true (.call (.k (.fn 171 [] [])) [(.k (.str [65]))]),ng 33 26 true (.buildSl 134 6 [(.int .i64 0),(.int .i64 0),(.str []),
 (.int .i64 0),(.int .i64 0),(.str []),(.int .i64 0),(.int .i64 0),(.str []),(.int .i64 0),(.int .i64 0),(.str []),(.int .i64 0),(.int .i64 0),(.str []),(.int .i64 0),(.int
 .i64 0),(.str [])] [(0,3,27),(3,3,28),(6,3,29),(9,3,30),(12,3,31),(15,3,32)]),wg 34 26 true (.call (.k (.fn 168 [] [])) [(.k (.str [91,60,60,32,62,62,93,37,
 120,10,40,121,41,60,52,49,62])),33]),p 35 (.pick 26 34 (.k (.bool false))),p 1 (.mov 35)]) (.seq (.keep [1]) (.seq (.reg [p 36 (.mov 1),p 37 (.mov 36),wg 38 37 true (.call
 (.k (.fn 173 [] [])) [(.k (.int .i64 (-1)))]),wg 39 37 true (.call (.k (.fn 173 [] [])) [(.k (.int .i64 256))]),wg 40 37 true (.call (.k (.fn 171 [] [])) [(.k (.str [97,98]))]),
 wg 41 37 true (.call (.k (.fn 172 [] [])) [(.k (.str [113]))]),ng 42 37 true (.buildSl 134 4 [(.int .i64 0),(.int .i64 0),(.str []),(.int .i64 0),(.int .i64 0),(.str []),(.int
 .i64 0),(.int .i64 0),(.str []),(.int .i64 0),(.int .i64 0),(.str [])] [(0,3,38),(3,3,39),(6,3,40),(9,3,41)]),wg 43 37 true (.call (.k (.fn 168 [] [])) [(.k (.str [129,
 255,130,1,0,132,2,97,98,135,1,113])),42]),p 44 (.pick 37 43 (.k (.bool false))),p 1 (.mov 44)]) (.seq (.keep [1]) (.seq (.reg [w 46 (.call (.k (.fn 158 [] [])) [(.k (.str
 [32,32,41])),(.k (.int .i64 0))]),p 45 (.mov 46),p 47 (.extr 0 45),p 48 (.extr 1 45),p 49 (.extr 2 45),n 2 (.alloc 134 true [(.int .i64 0),(.int .i64 0),(.str [])]),w0 (.store
 3 2 47),p 3 (.mov 48),p 4 (.mov 49)]) (.seq (.keep [1,3,4]) (.seq (.reg [w 51 (.call (.k (.fn 158 [] [])) [(.k (.str [97])),(.k (.int .i64 2))]),p 50 (.mov 51),p 52 (.extr 0
 50),p 53 (.extr 1 50),p 54 (.extr 2 50),n 5 (.alloc 134 true [(.int .i64 0),(.int .i64 0),(.str [])]),w0 (.store 3 5 52),p 6 (.mov 53),p 7 (.mov 54)]) (.seq (.keep [1,3,4,
 6,7]) (.seq (.reg [w 56 (.call (.k (.fn 158 [] [])) [(.k (.str [32,37,32,120])),(.k (.int .i64 0))]),p 55 (.mov 56),p 57 (.extr 0 55),p 58 (.extr 1 55),p 59 (.extr 2 55),n
 8 (.alloc 134 true [(.int .i64 0),(.int .i64 0),(.str [])]),w0 (.store 3 8 57),p 9 (.mov 58),p 10 (.mov 59)]) (.seq (.keep [1,3,4,6,7,9,10]) (.seq (.reg [w 61 (.call (.k
 (.fn 173 [] [])) [(.k (.int .i64 1))]),w 62 (.call (.k (.fn 172 [] [])) [(.k (.str [97]))]),w 63 (.call (.k (.fn 171 [] [])) [(.k (.str [40]))]),n 64 (.buildSl 134 3 [(.int .i64
 0),(.int .i64 0),(.str []),(.int .i64 0),(.int .i64 0),(.str []),(.int .i64 0),(.int .i64 0),(.str [])] [(0,3,61),(3,3,62),(6,3,63)]),w 65 (.call (.k (.fn 165 [] []))
 [64]),p 60 (.mov 65),p 66 (.extr 0 60),p 67 (.extr 1 60),p 11 (.mov 66),p 12 (.mov 67)]) (.seq (.keep [1,3,4,6,7,9,10,11,12]) (.seq (.reg [w 69 (.call (.k (.fn 173 [] []))
 [(.k (.int .i64 128))]),w 70 (.call (.k (.fn 166 [] [])) [69]),p 68 (.mov 70),p 71 (.extr 0 68),p 72 (.extr 1 68),p 13 (.mov 71),p 14 (.mov 72)]) (.seq (.reg [w 74 (.call (.k
 (.fn 173 [] [])) [(.k (.int .i64 (-128)))]),w 75 (.call (.k (.fn 166 [] [])) [74]),p 73 (.mov 75),p 76 (.extr 0 73),p 77 (.extr 1 73),p 15 (.mov 76),p 16 (.mov 77)]) (.seq (.reg
 [p 78 (.mov 1),p 79 (.mov 78),pg 80 79 true (.mov 4),pg 81 79 true (.bin .eql 80 (.k (.int .i64 37))),p 82 (.pick 79 81 (.k (.bool false))),p 83 (.mov 82),pg 84 83 true (.mov
 3),pg 85 83 true (.bin .eql 84 (.k (.int .i64 2))),p 86 (.pick 83 85 (.k (.bool false))),p 87 (.mov 86),pg 88 87 true (.mov 7),pg 89 87 true (.bin .eql 88 (.k (.int .i64 2))),
 p 90 (.pick 87 89 (.k (.bool false))),p 91 (.mov 90),pg 92 91 true (.mov 6),pg 93 91 true (.bin .eql 92 (.k (.int .i64 0))),p 94 (.pick 91 93 (.k (.bool false))),p 95 (.mov 94),
 pg 96 95 true (.mov 10),pg 97 95 true (.bin .eql 96 (.k (.int .i64 4))),p 98 (.pick 95 97 (.k (.bool false))),p 99 (.mov 98),pg 100 99 true (.mov 9),pg 101 99 true (.bin .eql 100
 (.k (.int .i64 4))),p 102 (.pick 99 101 (.k (.bool false))),p 103 (.mov 102),pg 104 103 true (.mov 12),pg 105 103 true (.bin .eql 104 (.k (.int .i64 0))),p 106 (.pick 103 105 (.k
 (.bool false))),p 107 (.mov 106),pg 108 107 true (.mov 11),pg 109 107 true (.bin .eql 108 (.k (.str [49,32,97,32,40,92,40,41]))),p 110 (.pick 107 109 (.k (.bool false))),
 p 111 (.mov 110),pg 112 111 true (.mov 14),pg 113 111 true (.bin .eql 112 (.k (.int .i64 0))),p 114 (.pick 111 113 (.k (.bool false))),p 115 (.mov 114),pg 116 115 true (.mov 13),
 pg 117 115 true (.bin .eql 116 (.k (.str [130,0,128]))),p 118 (.pick 115 117 (.k (.bool false))),p 119 (.mov 118),pg 120 119 true (.mov 16),pg 121 119 true (.bin .eql 120 (.k
 (.int .i64 0))),p 122 (.pick 119 121 (.k (.bool false))),p 123 (.mov 122),pg 124 123 true (.mov 15),pg 125 123 true (.bin .eql 124 (.k (.str [129,128]))),p 126 (.pick 123 125
 (.k (.bool false))),p 1 (.mov 126)]) (.seq (.keep [1]) (.seq (.reg [p 127 (.mov 1),p 128 (.mov 127),wg 129 128 true (.call (.k (.fn 170 [] [])) [(.k (.str [49,32,62,32,50])),
 (.k (.int .i64 2)),(.k (.int .i64 37))]),p 130 (.pick 128 129 (.k (.bool false))),p 131 (.mov 130),wg 132 131 true (.call (.k (.fn 170 [] [])) [(.k (.str [60,52,103,62])),(.k
 (.int .i64 0)),(.k (.int .i64 37))]),p 133 (.pick 131 132 (.k (.bool false))),p 134 (.mov 133),wg 135 134 true (.call (.k (.fn 170 [] [])) [(.k (.str [137])),(.k (.int .i64 0)),
 (.k (.int .i64 37))]),p 136 (.pick 134 135 (.k (.bool false))),p 137 (.mov 136),wg 138 137 true (.call (.k (.fn 170 [] [])) [(.k (.str [132,5,97])),(.k (.int .i64 0)),(.k (.int
 .i64 37))]),p 139 (.pick 137 138 (.k (.bool false))),p 0 (.mov 139)]) .ret))))))))))))))))))))⟩
def scan_Next:MFun:=⟨2,[.cell 4 (some 3),.t 5,.t 6],(.seq (.reg [n 4 (.alloc 134 true [(.int .i64 0),(.int .i64 0),(.str [])]),p 5 (.mov (.k (.int .i64 0))),p 6 (.mov (.k
 (.int .i64 0)))]) (.seq (.seq (.reg [p 11 (.mov 0),p 12 (.lenOf true 11),p 13 (.bin .gtr 12 (.k (.int .i64 65536)))]) (.cond 13 (.seq (.reg [p 14 (.build [(.int .i64 0),(.int .i64
 0),(.str [])] []),w0 (.store 3 4 14),p 5 (.mov (.k (.int .i64 0))),p 6 (.mov (.k (.int .i64 3)))]) .ret) .skip)) (.seq (.seq (.reg [p 15 (.mov 1),p 16 (.bin .lss 15 (.k (.int .i64
 0))),p 17 (.mov 16),pg 18 17 false (.mov 1),pg 19 17 false (.mov 0),pg 20 17 false (.lenOf true 19),pg 21 17 false (.bin .gtr 18 20),p 22 (.pick 17 (.k (.bool true)) 21)]) (.seq
 (.keep [0,1,4,22]) (.cond 22 (.seq (.reg [p 23 (.build [(.int .i64 0),(.int .i64 0),(.str [])] []),w0 (.store 3 4 23),p 5 (.mov (.k (.int .i64 0))),p 6 (.mov (.k (.int .i64
 2)))]) .ret) .skip))) (.seq (.keep [0,1,4]) (.seq (.reg [p 24 (.mov 0),p 25 (.mov 1),p 26 (.build [(.str []),(.int .i64 0)] [(0,1,24),(1,1,25)]),p 27 (.build [(.str []),
 (.int .i64 0)] [(0,2,26)]),n 28 (.box 278 false 27),p 7 (.mov 28)]) (.seq (.reg [p 29 (.mov 7),w 30 (.call (.k (.fn 174 [] [])) [29])]) (.seq (.seq (.reg [p 31 (.mov 7),p 32 (.nilck
 31),p 33 (.faddr 0 32),p 34 (.faddr 1 33),r 35 (.load none 34),p 36 (.mov 0),p 37 (.lenOf true 36),p 38 (.bin .eql 35 37)]) (.seq (.keep [4,7,38]) (.cond 38 (.seq (.regd [.op
 1 (p 40 (.mov 7)),.op 2 (p 41 (.nilck 40)),.op 3 (p 42 (.faddr 0 41)),.op 4 (p 43 (.faddr 1 42)),.op 5 (r 44 (.load none 43)),.op 0 (p 39 (.build [(.int .i64 0),(.int .i64 0),
 (.str [])] [])),.op 6 (w0 (.store 3 4 39)),.re 5,.op 7 (p 5 (.mov 44)),.op 8 (p 6 (.mov (.k (.int .i64 4))))]) .ret) .skip))) (.seq (.keep [4,7]) (.seq (.reg [p 46 (.mov 7),w
 47 (.call (.k (.fn 175 [] [])) [46]),p 45 (.mov 47),p 48 (.extr 0 45),p 49 (.extr 1 45),p 50 (.extr 2 45),n 8 (.alloc 134 true [(.int .i64 0),(.int .i64 0),(.str [])]),w0 (.store
 3 8 48),p 9 (.mov 49),p 10 (.mov 50)]) (.seq (.keep [4,7,8,9,10]) (.seq (.regd [.op 0 (r 51 (.load (some 3) 8)),.op 1 (p 52 (.mov 7)),.op 2 (p 53 (.nilck 52)),.op 3 (p 54 (.faddr
 0 53)),.op 4 (p 55 (.faddr 1 54)),.op 5 (r 56 (.load none 55)),.op 9 (w0 (.store 3 4 51)),.re 5,.op 6 (p 57 (.mov 9)),.op 7 (p 58 (.bin .add 56 57)),.op 8 (p 59 (.mov 10)),.op
 10 (p 5 (.mov 58)),.op 11 (p 6 (.mov 59))]) .ret)))))))))))⟩
def scan_All_l0:MCode:=(.block 1 (.seq (.regd [.op 0 (p 12 (.faddr 3 8)),.op 1 (r 13 (.load none 12)),.op 2 (p 14 (.faddr 4 8)),.op 3 (r 15 (.load none 14)),.op 4 (w0 (.store
 1 6 13)),.re 3,.op 5 (w0 (.store 1 7 15))]) (.seq (.reg [r 16 (.load none 7)]) (.block 2 (.seq (.reg [p 18 (.bin .eql 16 (.k (.int .i64 0))),p 17 (.mov 18)]) (.cond 17 (.reg [r 19
 (.load none 5),p 20 (.faddr 0 8),r 21 (.load (some 3) 20),n 22 (.buildSl 134 1 [(.int .i64 0),(.int .i64 0),(.str [])] [(0,3,21)]),w 23 (.append 134 3 32 [(.int .i64 0),(.int
 .i64 0),(.str [])] 19 22),w0 (.store 1 5 23)]) (.exit 0)))))))
def scan_All:MFun:=⟨1,[.t 2,.t 3,.t 4],(.seq (.reg [p 2 (.mov (.k .nilslice)),p 3 (.mov (.k (.int .i64 0))),p 4 (.mov (.k (.int .i64 0)))]) (.scope (.seq (.reg [n 5 (.alloc
 146 true [.nilslice])]) (.seq (.reg [n 6 (.alloc 3 true [(.int .i64 0)]),n 7 (.alloc 30 true [(.int .i64 0)]),w0 (.store 1 6 (.k (.int .i64 0))),w0 (.store 1 7 (.k (.int .i64 0)))])
 (.seq .skip (.seq (.seq (.reg [p 9 (.mov 0),w 10 (.call (.k (.fn 178 [] [])) [9])]) (.block 0 (.rangeFunc 10 [11] (.reg [n 8 (.alloc 284 true [(.int .i64 0),(.int .i64 0),(.str []),
 (.int .i64 0),(.int .i64 0)]),w0 (.store 5 8 11)]) scan_All_l0))) (.seq (.keep [5,6,7]) (.seq (.seq (.reg [r 24 (.load none 7),p 25 (.bin .neq 24 (.k (.int .i64 4)))]) (.cond 25
 (.seq (.regd [.op 0 (r 26 (.load none 6)),.op 1 (r 27 (.load none 7)),.op 2 (p 2 (.mov (.k .nilslice))),.op 3 (p 3 (.mov 26)),.op 4 (p 4 (.mov 27))]) .ret) .skip)) (.seq (.regd
 [.op 0 (r 28 (.load none 5)),.op 1 (r 29 (.load none 6)),.op 2 (p 2 (.mov 28)),.op 3 (p 3 (.mov 29)),.op 4 (p 4 (.mov (.k (.int .i64 0))))]) .ret)))))))))⟩
def chaseref04_Same_l0:MCode:=(.seq (.keep [0,1,5]) (.seq (.seq (.reg [p 11 (.mov 5),p 12 (.mov 0),p 13 (.lenOf false 12),p 14 (.bin .lss 11 13)]) (.cond 14 .skip (.exit 0)))
 (.seq (.block 1 (.seq (.regd [.op 0 (p 17 (.mov 0)),.op 1 (p 18 (.mov 5)),.op 2 (p 19 (.iaddrS 3 17 18)),.op 3 (r 20 (.load (some 3) 19)),.op 4 (p 21 (.mov 1)),.op 5 (p 22 (.mov
 5)),.op 6 (p 23 (.iaddrS 3 21 22)),.op 7 (r 24 (.load (some 3) 23)),.op 8 (p 25 (.eqA true [(.i .i64),(.i .i64),.s] 20 24))]) (.seq (.keep [0,1,5,25]) (.cond 25 (.seq (.reg
 [p 4 (.mov (.k (.bool false)))]) .ret) .skip)))) (.seq (.keep [0,1,5]) (.reg [p 15 (.mov 5),p 16 (.bin .add 15 (.k (.int .i64 1))),p 5 (.mov 16)])))))
def chaseref04_Same:MFun:=⟨2,[.t 4],(.seq (.reg [p 4 (.mov (.k (.bool false)))]) (.seq (.seq (.reg [p 6 (.mov 0),p 7 (.lenOf false 6),p 8 (.mov 1),p 9 (.lenOf false 8),p 10
 (.bin .neq 7 9)]) (.cond 10 (.seq (.reg [p 4 (.mov (.k (.bool false)))]) .ret) .skip)) (.seq (.seq (.reg [p 5 (.mov (.k (.int .i64 0)))]) (.block 0 (.loop chaseref04_Same_l0))) (.seq
 (.keep []) (.seq (.reg [p 4 (.mov (.k (.bool true)))]) .ret)))))⟩
def scan_Print_l0:MCode:=(.seq (.keep [4,9,10,11]) (.seq (.reg [p 12 (.bin .lss 11 10)]) (.seq (.cond 12 .skip (.exit 0)) (.seq (.block 1 (.seq (.reg [p 13 (.iaddrS 3 9 11),
 r 14 (.load (some 3) 13),n 6 (.alloc 134 true [(.int .i64 0),(.int .i64 0),(.str [])]),w0 (.store 3 6 14)]) (.seq (.reg [r 16 (.load (some 3) 6),w 17 (.call (.k (.fn 128 [] []))
 [16]),p 15 (.mov 17),p 18 (.extr 0 15),p 19 (.extr 1 15),p 7 (.mov 18),p 8 (.mov 19)]) (.seq (.seq (.reg [p 20 (.mov 8),p 21 (.bin .neq 20 (.k (.int .i64 0)))]) (.cond 21 (.seq
 (.reg [p 22 (.mov 8),p 2 (.mov (.k (.str []))),p 3 (.mov 22)]) .ret) .skip)) (.reg [p 23 (.mov 4),p 24 (.mov 7),n 25 (.buildSl 9 1 [(.str [])] [(0,1,24)]),w 26 (.append 9 1 16
 [(.str [])] 23 25),p 4 (.mov 26)]))))) (.seq (.keep [4,9,10,11]) (.reg [p 27 (.bin .add 11 (.k (.int .i64 1))),p 11 (.mov 27)]))))))
def scan_Print:MFun:=⟨1,[.t 2,.t 3],(.seq (.reg [p 2 (.mov (.k (.str []))),p 3 (.mov (.k (.int .i64 0)))]) (.seq (.reg [p 4 (.mov (.k .nilslice))]) (.seq (.seq (.reg [p 9 (.mov
 0),p 10 (.lenOf false 9),p 11 (.mov (.k (.int .i64 0)))]) (.block 0 (.loop scan_Print_l0))) (.seq (.keep [4]) (.seq (.reg [p 28 (.mov 4),w 29 (.call (.k (.fn 179 [] [])) [28,(.k
 (.str [32]))]),p 2 (.mov 29),p 3 (.mov (.k (.int .i64 0)))]) .ret)))))⟩
def scan_Pack:MFun:=⟨1,[.t 2,.t 3],(.seq (.reg [n 1 (.box 134 true 0),p 2 (.mov (.k (.str []))),p 3 (.mov (.k (.int .i64 0)))]) (.seq (.seq (.reg [r 6 (.load (some 3) 1),w
 7 (.call (.k (.fn 74 [] [])) [6]),p 4 (.mov 7)]) (.seq (.reg [p 8 (.mov 4),p 9 (.bin .neq 8 (.k (.int .i64 0)))]) (.cond 9 (.seq (.reg [p 10 (.mov 4),p 2 (.mov (.k (.str []))),p
 3 (.mov 10)]) .ret) .skip))) (.seq (.keep [1]) (.seq (.reg [p 11 (.faddr 2 1),r 12 (.load none 11),p 13 (.lenOf true 12),p 5 (.mov 13)]) (.seq (.seq (.reg [p 14 (.faddr 0 1),r 15
 (.load none 14)]) (.block 0 (.seq (.reg [p 17 (.bin .eql 15 (.k (.int .i64 1))),p 16 (.mov 17)]) (.cond 16 (.seq (.block 1 (.seq (.reg [p 19 (.faddr 1 1),r 20 (.load none 19),p 21
 (.bin .geq 20 (.k (.int .i64 (-128)))),p 22 (.mov 21),pg 23 22 true (.faddr 1 1),rg 24 22 true (.load none 23),pg 25 22 true (.bin .lss 24 (.k (.int .i64 128))),p 26 (.pick 22
 25 (.k (.bool false))),p 18 (.mov 26)]) (.seq (.keep [1,18]) (.cond 18 (.seq (.reg [p 27 (.faddr 1 1),r 28 (.load none 27),w 29 (.call (.k (.fn 180 [] [])) [(.k (.int .u8 129)),
 28,(.k (.int .i64 1)),(.k (.str []))]),p 2 (.mov 29),p 3 (.mov (.k (.int .i64 0)))]) .ret) (.seq (.reg [p 31 (.faddr 1 1),r 32 (.load none 31),p 33 (.bin .geq 32 (.k (.int .i64
 (-32768)))),p 34 (.mov 33),pg 35 34 true (.faddr 1 1),rg 36 34 true (.load none 35),pg 37 34 true (.bin .lss 36 (.k (.int .i64 32768))),p 38 (.pick 34 37 (.k (.bool false))),p
 30 (.mov 38)]) (.seq (.keep [1,30]) (.cond 30 (.seq (.reg [p 39 (.faddr 1 1),r 40 (.load none 39),w 41 (.call (.k (.fn 180 [] [])) [(.k (.int .u8 130)),40,(.k (.int .i64 2)),(.k
 (.str []))]),p 2 (.mov 41),p 3 (.mov (.k (.int .i64 0)))]) .ret) .skip))))))) (.seq (.keep [1]) (.seq (.reg [p 42 (.faddr 1 1),r 43 (.load none 42),w 44 (.call (.k (.fn 180 [] []))
 [(.k (.int .u8 128)),43,(.k (.int .i64 4)),(.k (.str []))]),p 2 (.mov 44),p 3 (.mov (.k (.int .i64 0)))]) .ret))) (.seq (.reg [p 46 (.bin .eql 15 (.k (.int .i64 2))),p 45 (.mov
 46)]) (.cond 45 (.seq (.seq (.reg [p 47 (.faddr 1 1),r 48 (.load none 47),p 49 (.bin .gtr 48 (.k (.int .i64 2147483647)))]) (.cond 49 (.seq (.reg [p 2 (.mov (.k (.str []))),p 3 (.mov
 (.k (.int .i64 6)))]) .ret) .skip)) (.seq (.reg [p 50 (.faddr 1 1),r 51 (.load none 50),w 52 (.call (.k (.fn 180 [] [])) [(.k (.int .u8 131)),51,(.k (.int .i64 4)),(.k (.str []))]),
 p 2 (.mov 52),p 3 (.mov (.k (.int .i64 0)))]) .ret)) (.seq (.reg [p 54 (.bin .eql 15 (.k (.int .i64 6))),p 53 (.mov 54)]) (.cond 53 (.seq (.seq (.reg [p 55 (.mov 5),p 56 (.bin .lss
 55 (.k (.int .i64 256)))]) (.cond 56 (.seq (.reg [p 57 (.mov 5),p 58 (.faddr 2 1),r 59 (.load none 58),w 60 (.call (.k (.fn 180 [] [])) [(.k (.int .u8 132)),57,(.k (.int .i64 1)),
 59]),p 2 (.mov 60),p 3 (.mov (.k (.int .i64 0)))]) .ret) .skip)) (.seq (.keep [1,5]) (.seq (.reg [p 61 (.mov 5),p 62 (.faddr 2 1),r 63 (.load none 62),w 64 (.call (.k (.fn 180
 [] [])) [(.k (.int .u8 133)),61,(.k (.int .i64 2)),63]),p 2 (.mov 64),p 3 (.mov (.k (.int .i64 0)))]) .ret))) (.seq (.reg [p 66 (.bin .eql 15 (.k (.int .i64 4))),p 65 (.mov 66)])
 (.cond 65 (.seq (.reg [p 67 (.mov 5),p 68 (.faddr 2 1),r 69 (.load none 68),w 70 (.call (.k (.fn 180 [] [])) [(.k (.int .u8 134)),67,(.k (.int .i64 1)),69]),p 2 (.mov 70),p
 3 (.mov (.k (.int .i64 0)))]) .ret) (.seq (.reg [p 72 (.bin .eql 15 (.k (.int .i64 3))),p 71 (.mov 72)]) (.cond 71 (.seq (.reg [p 73 (.mov 5),p 74 (.faddr 2 1),r 75 (.load none 74),
 w 76 (.call (.k (.fn 180 [] [])) [(.k (.int .u8 135)),73,(.k (.int .i64 1)),75]),p 2 (.mov 76),p 3 (.mov (.k (.int .i64 0)))]) .ret) (.seq (.reg [p 78 (.bin .eql 15 (.k (.int .i64
 5))),p 77 (.mov 78)]) (.cond 77 (.seq (.reg [p 79 (.mov 5),p 80 (.faddr 2 1),r 81 (.load none 80),w 82 (.call (.k (.fn 180 [] [])) [(.k (.int .u8 136)),79,(.k (.int .i64 1)),
 81]),p 2 (.mov 82),p 3 (.mov (.k (.int .i64 0)))]) .ret) .skip)))))))))))))) (.seq (.keep [1]) (.seq (.reg [r 83 (.load (some 3) 1),w 84 (.call (.k (.fn 128 [] [])) [83]),p 85 (.extr
 0 84),p 86 (.extr 1 84),p 2 (.mov 85),p 3 (.mov 86)]) .ret)))))))⟩
def chaselaw04_reads:MFun:=⟨2,[.t 4],(.seq (.reg [p 4 (.mov (.k (.bool false)))]) (.seq (.reg [p 9 (.mov 0),w 10 (.call (.k (.fn 162 [] [])) [9]),p 8 (.mov 10),p 11 (.extr
 0 8),p 12 (.extr 1 8),p 13 (.extr 2 8),p 5 (.mov 11),p 6 (.mov 12),p 7 (.mov 13)]) (.seq (.keep [0,1,5,6,7]) (.seq (.reg [p 14 (.mov 7),p 15 (.bin .eql 14 (.k (.int .i64 0))),
 p 16 (.mov 15),pg 17 16 true (.mov 6),pg 18 16 true (.mov 0),pg 19 16 true (.lenOf true 18),pg 20 16 true (.bin .eql 17 19),p 21 (.pick 16 20 (.k (.bool false))),p 22 (.mov 21),
 pg 23 22 true (.mov 5),pg 24 22 true (.mov 1),wg 25 22 true (.call (.k (.fn 164 [] [])) [23,24]),p 26 (.pick 22 25 (.k (.bool false))),p 4 (.mov 26)]) .ret))))⟩
def strings_Builder_WriteString:MFun:=⟨2,[.t 4,.t 5],(.seq (.reg [p 4 (.mov (.k (.int .i64 0))),p 5 (.mov (.k .niliface))]) (.seq (.reg [p 6 (.mov 0),w 7 (.call (.k (.fn 109
 [] [])) [6])]) (.seq (.reg [p 8 (.mov 0),p 9 (.mov 0),p 10 (.nilck 9),p 11 (.faddr 1 10),r 12 (.load none 11),p 13 (.mov 1),w 14 (.append 5 1 1 [(.int .u8 0)] 12 13),p 15 (.nilck
 8),p 16 (.faddr 1 15),w0 (.store 1 16 14)]) (.seq (.keep [1]) (.seq (.reg [p 17 (.mov 1),p 18 (.lenOf true 17),p 4 (.mov 18),p 5 (.mov (.k .niliface))]) .ret)))))⟩
def chaselaw04_fails:MFun:=⟨3,[.t 6],(.seq (.reg [p 6 (.mov (.k (.bool false)))]) (.seq (.reg [p 11 (.mov 0),w 12 (.call (.k (.fn 162 [] [])) [11]),p 10 (.mov 12),p 13 (.extr
 0 10),p 14 (.extr 1 10),p 15 (.extr 2 10),p 7 (.mov 13),p 8 (.mov 14),p 9 (.mov 15)]) (.seq (.keep [1,2,7,8,9]) (.seq (.reg [p 16 (.mov 9),p 17 (.mov 2),p 18 (.bin .eql 16
 17),p 19 (.mov 18),pg 20 19 true (.mov 8),pg 21 19 true (.mov 1),pg 22 19 true (.bin .eql 20 21),p 23 (.pick 19 22 (.k (.bool false))),p 24 (.mov 23),pg 25 24 true (.mov 7),
 pg 26 24 true (.lenOf false 25),pg 27 24 true (.bin .eql 26 (.k (.int .i64 0))),p 28 (.pick 24 27 (.k (.bool false))),p 6 (.mov 28)]) .ret))))⟩
def chaselaw04_text:MFun:=⟨1,[.cell 2 (some 3)],(.seq (.reg [n 2 (.alloc 134 true [(.int .i64 0),(.int .i64 0),(.str [])])]) (.seq (.reg [p 3 (.mov 0),p 4 (.build [(.int .i64
 0),(.int .i64 0),(.str [])] [(0,1,(.k (.int .i64 6))),(2,1,3)]),w0 (.store 3 2 4)]) .ret))⟩
def chaselaw04_name:MFun:=⟨1,[.cell 2 (some 3)],(.seq (.reg [n 2 (.alloc 134 true [(.int .i64 0),(.int .i64 0),(.str [])])]) (.seq (.reg [p 3 (.mov 0),p 4 (.build [(.int .i64
 0),(.int .i64 0),(.str [])] [(0,1,(.k (.int .i64 3))),(2,1,3)]),w0 (.store 3 2 4)]) .ret))⟩
def chaselaw04_number:MFun:=⟨1,[.cell 2 (some 3)],(.seq (.reg [n 2 (.alloc 134 true [(.int .i64 0),(.int .i64 0),(.str [])])]) (.seq (.reg [p 3 (.mov 0),p 4 (.build [(.int
 .i64 0),(.int .i64 0),(.str [])] [(0,1,(.k (.int .i64 1))),(1,1,3)]),w0 (.store 3 2 4)]) .ret))⟩
def scan_reader_skip_l0:MCode:=(.seq (.keep [0]) (.block 1 (.seq (.regd [.op 0 (p 2 (.mov 0)),.op 1 (p 3 (.nilck 2)),.op 2 (p 4 (.faddr 0 3)),.op 3 (p 5 (.faddr 1 4)),.op 4
 (r 6 (.load none 5)),.op 5 (p 7 (.mov 0)),.op 6 (p 8 (.nilck 7)),.op 7 (p 9 (.faddr 0 8)),.op 8 (p 10 (.faddr 0 9)),.op 9 (r 11 (.load none 10)),.op 10 (p 12 (.mov 0)),.op 11
 (p 13 (.nilck 12)),.op 12 (p 14 (.faddr 0 13)),.op 13 (p 15 (.faddr 1 14)),.op 14 (r 16 (.load none 15)),.op 15 (p 17 (.subS 11 (some 16) none)),.op 16 (w 18 (.call (.k (.fn 182
 [] [])) [17,(.k (.fn 183 [] []))])),.re 4,.op 17 (p 19 (.bin .add 6 18)),.op 18 (p 20 (.nilck 2)),.op 19 (p 21 (.faddr 0 20)),.op 20 (p 22 (.faddr 1 21)),.op 21 (w0 (.store 1
 22 19))]) (.seq (.keep [0]) (.seq (.seq (.regd [.op 0 (p 23 (.mov 0)),.op 1 (p 24 (.nilck 23)),.op 2 (p 25 (.faddr 0 24)),.op 3 (p 26 (.faddr 1 25)),.op 4 (r 27 (.load none 26)),
 .op 5 (p 28 (.mov 0)),.op 6 (p 29 (.nilck 28)),.op 7 (p 30 (.faddr 0 29)),.op 8 (p 31 (.faddr 0 30)),.op 9 (r 32 (.load none 31)),.op 10 (p 33 (.lenOf true 32)),.op 11 (p 34 (.bin
 .eql 27 33)),.op 12 (p 35 (.mov 34)),.op 13 (pg 36 35 false (.mov 0)),.op 14 (pg 37 35 false (.nilck 36)),.op 15 (pg 38 35 false (.faddr 0 37)),.op 16 (pg 39 35 false (.faddr 0
 38)),.op 17 (rg 40 35 false (.load none 39)),.op 18 (pg 41 35 false (.mov 0)),.op 19 (pg 42 35 false (.nilck 41)),.op 20 (pg 43 35 false (.faddr 0 42)),.op 21 (pg 44 35 false (.faddr
 1 43)),.op 22 (rg 45 35 false (.load none 44)),.op 23 (pg 46 35 false (.idxS 40 45)),.op 24 (pg 47 35 false (.bin .neq 46 (.k (.int .u8 37)))),.op 25 (p 48 (.pick 35 (.k (.bool
 true)) 47))]) (.cond 48 .ret .skip)) (.seq (.keep [0]) (.regd [.op 0 (p 49 (.mov 0)),.op 1 (p 50 (.nilck 49)),.op 2 (p 51 (.faddr 0 50)),.op 3 (p 52 (.faddr 1 51)),.op 4 (r 53 (.load
 none 52)),.op 5 (p 54 (.mov 0)),.op 6 (p 55 (.nilck 54)),.op 7 (p 56 (.faddr 0 55)),.op 8 (p 57 (.faddr 0 56)),.op 9 (r 58 (.load none 57)),.op 10 (p 59 (.mov 0)),.op 11 (p 60
 (.nilck 59)),.op 12 (p 61 (.faddr 0 60)),.op 13 (p 62 (.faddr 1 61)),.op 14 (r 63 (.load none 62)),.op 15 (p 64 (.subS 58 (some 63) none)),.op 16 (w 65 (.call (.k (.fn 182 [] []))
 [64,(.k (.fn 184 [] []))])),.re 4,.op 17 (p 66 (.bin .add 53 65)),.op 18 (p 67 (.nilck 49)),.op 19 (p 68 (.faddr 0 67)),.op 20 (p 69 (.faddr 1 68)),.op 21 (w0 (.store 1 69 66))])))))))
def scan_reader_skip:MFun:=⟨1,[],(.block 0 (.loop scan_reader_skip_l0))⟩
def scan_reader_token:MFun:=⟨1,[.cell 2 (some 3),.t 3,.t 4],(.seq (.reg [n 2 (.alloc 134 true [(.int .i64 0),(.int .i64 0),(.str [])]),p 3 (.mov (.k (.int .i64 0))),p 4
 (.mov (.k (.int .i64 0)))]) (.seq (.regd [.op 0 (p 11 (.mov 0)),.op 1 (p 12 (.nilck 11)),.op 2 (p 13 (.faddr 0 12)),.op 3 (p 14 (.faddr 0 13)),.op 4 (r 15 (.load none 14)),.op
 5 (p 16 (.mov 0)),.op 6 (p 17 (.nilck 16)),.op 7 (p 18 (.faddr 0 17)),.op 8 (p 19 (.faddr 1 18)),.op 9 (r 20 (.load none 19)),.op 10 (p 21 (.idxS 15 20)),.op 11 (p 5 (.mov 21))])
 (.seq (.keep [0,2,5]) (.seq (.seq (.reg [w 23 (.call (.k (.fn 185 [] [])) []),p 24 (.mov 5),r 25 (.lookup (.i .u8) .nilfn true 23 24),p 22 (.mov 25),p 26 (.extr 0 22),p 27 (.extr
 1 22),p 6 (.mov 26),p 7 (.mov 27)]) (.seq (.keep [0,2,5,6,7]) (.seq (.reg [p 28 (.mov 7)]) (.cond 28 (.seq (.reg [p 29 (.mov 6),p 30 (.mov 0),w 31 (.call 29 [30]),p 32 (.extr
 0 31),p 33 (.extr 1 31),p 34 (.extr 2 31),w0 (.store 3 2 32),p 3 (.mov 33),p 4 (.mov 34)]) .ret) .skip)))) (.seq (.keep [0,2,5]) (.seq (.seq (.reg [p 35 (.mov 5),p 36 (.bin
 .geq 35 (.k (.int .u8 128))),p 37 (.mov 36),pg 38 37 true (.mov 5),pg 39 37 true (.bin .lss 38 (.k (.int .u8 160))),p 40 (.pick 37 39 (.k (.bool false)))]) (.cond 40 (.seq (.reg
 [p 41 (.mov 0),w 42 (.call (.k (.fn 186 [] [])) [41]),p 43 (.extr 0 42),p 44 (.extr 1 42),p 45 (.extr 2 42),w0 (.store 3 2 43),p 3 (.mov 44),p 4 (.mov 45)]) .ret) .skip)) (.seq
 (.keep [0,2]) (.seq (.regd [.op 0 (p 46 (.mov 0)),.op 1 (p 47 (.nilck 46)),.op 2 (p 48 (.faddr 0 47)),.op 3 (p 49 (.faddr 0 48)),.op 4 (r 50 (.load none 49)),.op 5 (p 51 (.mov
 0)),.op 6 (p 52 (.nilck 51)),.op 7 (p 53 (.faddr 0 52)),.op 8 (p 54 (.faddr 1 53)),.op 9 (r 55 (.load none 54)),.op 10 (p 56 (.subS 50 (some 55) none)),.op 11 (w 57 (.call (.k
 (.fn 182 [] [])) [56,(.k (.fn 67 [] []))])),.op 12 (p 8 (.mov 57))]) (.seq (.keep [0,2,8]) (.seq (.regd [.op 0 (p 59 (.mov 0)),.op 1 (p 60 (.nilck 59)),.op 2 (p 61 (.faddr 0 60)),
 .op 3 (p 62 (.faddr 0 61)),.op 4 (r 63 (.load none 62)),.op 5 (p 64 (.mov 0)),.op 6 (p 65 (.nilck 64)),.op 7 (p 66 (.faddr 0 65)),.op 8 (p 67 (.faddr 1 66)),.op 9 (r 68 (.load
 none 67)),.op 10 (p 69 (.mov 0)),.op 11 (p 70 (.nilck 69)),.op 12 (p 71 (.faddr 0 70)),.op 13 (p 72 (.faddr 1 71)),.op 14 (r 73 (.load none 72)),.op 15 (p 74 (.mov 8)),.op 16
 (p 75 (.bin .add 73 74)),.op 17 (p 76 (.subS 63 (some 68) (some 75))),.op 18 (w 77 (.call (.k (.fn 65 [] [])) [76])),.op 19 (p 58 (.mov 77)),.op 20 (p 78 (.extr 0 58)),.op 22 (n
 9 (.alloc 134 true [(.int .i64 0),(.int .i64 0),(.str [])])),.op 23 (w0 (.store 3 9 78)),.op 21 (p 79 (.extr 1 58)),.op 24 (p 10 (.mov 79))]) (.seq (.keep [2,8,9,10]) (.seq
 (.seq (.reg [p 80 (.mov 10),p 81 (.bin .neq 80 (.k (.int .i64 0)))]) (.cond 81 (.seq (.reg [p 82 (.build [(.int .i64 0),(.int .i64 0),(.str [])] []),p 83 (.mov 10),w0 (.store 3
 2 82),p 3 (.mov (.k (.int .i64 0))),p 4 (.mov 83)]) .ret) .skip)) (.seq (.reg [r 84 (.load (some 3) 9),p 85 (.mov 8),w0 (.store 3 2 84),p 3 (.mov 85),p 4 (.mov (.k (.int .i64
 0)))]) .ret)))))))))))))⟩
def scan_tokens:MFun:=⟨1,[.t 2],(.seq (.reg [n 1 (.box 9 false 0),p 2 (.mov (.k .nilfn))]) (.seq (.reg [p 3 (.mkfn 192 [] [1]),p 2 (.mov 3)]) .ret))⟩
def scan_form_l0:MCode:=(.seq (.keep [1,3,9,10]) (.seq (.seq (.reg [p 15 (.mov 10),p 16 (.bin .geq 15 (.k (.int .i64 0)))]) (.cond 16 .skip (.exit 0))) (.seq (.block 1 (.reg
 [p 19 (.mov 1),p 20 (.mov 10),p 21 (.bin .mul (.k (.int .i64 8)) 20),p 22 (.bin .shr 19 21),p 23 (.conv .u8 22),w 24 (.call (.k (.fn 91 [] [])) [9,23])])) (.reg [p 17 (.mov 10),
 p 18 (.bin .sub 17 (.k (.int .i64 1))),p 10 (.mov 18)]))))
def scan_form:MFun:=⟨4,[.t 8],(.seq (.reg [p 8 (.mov (.k (.str [])))]) (.seq (.reg [n 9 (.alloc 84 false [.nilptr,.nilslice])]) (.seq (.reg [p 11 (.mov 0),w 12 (.call (.k (.fn
 91 [] [])) [9,11])]) (.seq (.seq (.reg [p 13 (.mov 2),p 14 (.bin .sub 13 (.k (.int .i64 1))),p 10 (.mov 14)]) (.block 0 (.loop scan_form_l0))) (.seq (.keep [3,9]) (.seq (.reg [p
 25 (.mov 3),w 26 (.call (.k (.fn 169 [] [])) [9,25])]) (.seq (.reg [w 27 (.call (.k (.fn 92 [] [])) [9]),p 8 (.mov 27)]) .ret)))))))⟩
def scan_run_string_l0:MCode:=(.seq (.keep [0,1,5]) (.seq (.seq (.reg [p 6 (.mov 5),p 7 (.mov 0),p 8 (.lenOf true 7),p 9 (.bin .lss 6 8),p 10 (.mov 9),pg 11 10 true (.mov
 1),pg 12 10 true (.mov 0),pg 13 10 true (.mov 5),pg 14 10 true (.idxS 12 13),wg 15 10 true (.call 11 [14]),p 16 (.pick 10 15 (.k (.bool false)))]) (.cond 16 .skip (.exit 0))) (.seq
 (.keep [0,1,5]) (.block 1 (.reg [p 17 (.mov 5),p 18 (.bin .add 17 (.k (.int .i64 1))),p 5 (.mov 18)])))))
def scan_run_string:MFun:=⟨2,[.t 4],(.seq (.reg [p 4 (.mov (.k (.int .i64 0)))]) (.seq (.reg [p 5 (.mov (.k (.int .i64 0)))]) (.seq (.block 0 (.loop scan_run_string_l0)) (.seq
 (.keep [5]) (.seq (.reg [p 19 (.mov 5),p 4 (.mov 19)]) .ret)))))⟩
def scan_blank:MFun:=⟨1,[.t 2],(.seq (.reg [p 2 (.mov (.k (.bool false)))]) (.seq (.reg [p 3 (.mov 0),w 4 (.call (.k (.fn 84 [] [])) [(.k (.str [0,9,10,12,13,32])),3]),
 p 5 (.bin .geq 4 (.k (.int .i64 0))),p 2 (.mov 5)]) .ret))⟩
def scan_reader_skip_1:MFun:=⟨1,[.t 2],(.seq (.reg [p 2 (.mov (.k (.bool false)))]) (.seq (.reg [p 3 (.mov 0),p 4 (.bin .neq 3 (.k (.int .u8 10))),p 5 (.mov 4),pg 6 5 true
 (.mov 0),pg 7 5 true (.bin .neq 6 (.k (.int .u8 13))),p 8 (.pick 5 7 (.k (.bool false))),p 2 (.mov 8)]) .ret))⟩
def scan_readers:MFun:=⟨0,[.t 0],(.seq (.reg [p 0 (.mov (.k .nilmap))]) (.seq (.reg [n 1 (.mkMap),w0 (.mput (.i .u8) 1 (.k (.int .u8 40)) (.k (.fn 193 [] []))),w0 (.mput (.i
 .u8) 1 (.k (.int .u8 41)) (.k (.fn 194 [] []))),w0 (.mput (.i .u8) 1 (.k (.int .u8 123)) (.k (.fn 195 [] []))),w0 (.mput (.i .u8) 1 (.k (.int .u8 125)) (.k (.fn 195 [] []))),w0 (.mput
 (.i .u8) 1 (.k (.int .u8 91)) (.k (.fn 196 [] []))),w0 (.mput (.i .u8) 1 (.k (.int .u8 93)) (.k (.fn 196 [] []))),w0 (.mput (.i .u8) 1 (.k (.int .u8 60)) (.k (.fn 197 [] []))),w0
 (.mput (.i .u8) 1 (.k (.int .u8 62)) (.k (.fn 198 [] []))),w0 (.mput (.i .u8) 1 (.k (.int .u8 47)) (.k (.fn 199 [] []))),p 2 (.mov 1),p 0 (.mov 2)]) .ret))⟩
def scan_reader_binary:MFun:=⟨1,[.cell 2 (some 3),.t 3,.t 4],(.seq (.reg [n 2 (.alloc 134 true [(.int .i64 0),(.int .i64 0),(.str [])]),p 3 (.mov (.k (.int .i64 0))),p 4
 (.mov (.k (.int .i64 0)))]) (.seq (.seq (.regd [.op 0 (p 5 (.mov 0)),.op 1 (p 6 (.nilck 5)),.op 2 (p 7 (.faddr 0 6)),.op 3 (p 8 (.faddr 0 7)),.op 4 (r 9 (.load none 8)),.op 5 (p
 10 (.mov 0)),.op 6 (p 11 (.nilck 10)),.op 7 (p 12 (.faddr 0 11)),.op 8 (p 13 (.faddr 1 12)),.op 9 (r 14 (.load none 13)),.op 10 (p 15 (.idxS 9 14))]) (.seq (.keep [0,2,15]) (.block
 0 (.seq (.reg [p 17 (.bin .eql 15 (.k (.int .u8 128))),p 16 (.mov 17)]) (.cond 16 (.seq (.reg [p 18 (.mov 0),w 19 (.call (.k (.fn 200 [] [])) [18,(.k (.int .i64 1)),(.k (.int .i64
 4))]),p 20 (.extr 0 19),p 21 (.extr 1 19),p 22 (.extr 2 19),w0 (.store 3 2 20),p 3 (.mov 21),p 4 (.mov 22)]) .ret) (.seq (.reg [p 24 (.bin .eql 15 (.k (.int .u8 129))),p 23 (.mov
 24)]) (.cond 23 (.seq (.reg [p 25 (.mov 0),w 26 (.call (.k (.fn 200 [] [])) [25,(.k (.int .i64 1)),(.k (.int .i64 1))]),p 27 (.extr 0 26),p 28 (.extr 1 26),p 29 (.extr 2 26),
 w0 (.store 3 2 27),p 3 (.mov 28),p 4 (.mov 29)]) .ret) (.seq (.reg [p 31 (.bin .eql 15 (.k (.int .u8 130))),p 30 (.mov 31)]) (.cond 30 (.seq (.reg [p 32 (.mov 0),w 33 (.call (.k
 (.fn 200 [] [])) [32,(.k (.int .i64 1)),(.k (.int .i64 2))]),p 34 (.extr 0 33),p 35 (.extr 1 33),p 36 (.extr 2 33),w0 (.store 3 2 34),p 3 (.mov 35),p 4 (.mov 36)]) .ret) (.seq
 (.reg [p 38 (.bin .eql 15 (.k (.int .u8 131))),p 37 (.mov 38)]) (.cond 37 (.seq (.reg [p 39 (.mov 0),w 40 (.call (.k (.fn 200 [] [])) [39,(.k (.int .i64 2)),(.k (.int .i64 4))]),
 p 41 (.extr 0 40),p 42 (.extr 1 40),p 43 (.extr 2 40),w0 (.store 3 2 41),p 3 (.mov 42),p 4 (.mov 43)]) .ret) (.seq (.reg [p 45 (.bin .eql 15 (.k (.int .u8 132))),p 44 (.mov 45)])
 (.cond 44 (.seq (.reg [p 46 (.mov 0),w 47 (.call (.k (.fn 201 [] [])) [46,(.k (.int .i64 6)),(.k (.int .i64 1))]),p 48 (.extr 0 47),p 49 (.extr 1 47),p 50 (.extr 2 47),w0 (.store
 3 2 48),p 3 (.mov 49),p 4 (.mov 50)]) .ret) (.seq (.reg [p 52 (.bin .eql 15 (.k (.int .u8 133))),p 51 (.mov 52)]) (.cond 51 (.seq (.reg [p 53 (.mov 0),w 54 (.call (.k (.fn 201 []
 [])) [53,(.k (.int .i64 6)),(.k (.int .i64 2))]),p 55 (.extr 0 54),p 56 (.extr 1 54),p 57 (.extr 2 54),w0 (.store 3 2 55),p 3 (.mov 56),p 4 (.mov 57)]) .ret) (.seq (.reg [p
 59 (.bin .eql 15 (.k (.int .u8 134))),p 58 (.mov 59)]) (.cond 58 (.seq (.reg [p 60 (.mov 0),w 61 (.call (.k (.fn 201 [] [])) [60,(.k (.int .i64 4)),(.k (.int .i64 1))]),p 62 (.extr
 0 61),p 63 (.extr 1 61),p 64 (.extr 2 61),w0 (.store 3 2 62),p 3 (.mov 63),p 4 (.mov 64)]) .ret) (.seq (.reg [p 66 (.bin .eql 15 (.k (.int .u8 135))),p 65 (.mov 66)]) (.cond 65
 (.seq (.reg [p 67 (.mov 0),w 68 (.call (.k (.fn 201 [] [])) [67,(.k (.int .i64 3)),(.k (.int .i64 1))]),p 69 (.extr 0 68),p 70 (.extr 1 68),p 71 (.extr 2 68),w0 (.store 3 2 69),
 p 3 (.mov 70),p 4 (.mov 71)]) .ret) (.seq (.reg [p 73 (.bin .eql 15 (.k (.int .u8 136))),p 72 (.mov 73)]) (.cond 72 (.seq (.reg [p 74 (.mov 0),w 75 (.call (.k (.fn 201 [] [])) [74,
 (.k (.int .i64 5)),(.k (.int .i64 1))]),p 76 (.extr 0 75),p 77 (.extr 1 75),p 78 (.extr 2 75),w0 (.store 3 2 76),p 3 (.mov 77),p 4 (.mov 78)]) .ret) .skip)))))))))))))))))))))
 (.seq (.keep [0,2]) (.seq (.reg [p 79 (.mov 0),w 80 (.call (.k (.fn 194 [] [])) [79]),p 81 (.extr 0 80),p 82 (.extr 1 80),p 83 (.extr 2 80),w0 (.store 3 2 81),p 3 (.mov 82),
 p 4 (.mov 83)]) .ret))))⟩
def scan_tokens_1_l0:MCode:=(.seq (.keep [0,1,3]) (.block 1 (.seq (.reg [r 8 (.load none 1),p 9 (.mov 3),w 10 (.call (.k (.fn 158 [] [])) [8,9]),p 7 (.mov 10),p 11 (.extr
 0 7),p 12 (.extr 1 7),p 13 (.extr 2 7),n 4 (.alloc 134 true [(.int .i64 0),(.int .i64 0),(.str [])]),w0 (.store 3 4 11),p 5 (.mov 12),p 6 (.mov 13)]) (.seq (.keep [0,1,4,
 5,6]) (.seq (.seq (.reg [p 14 (.mov 0),r 15 (.load (some 3) 4),p 16 (.mov 5),p 17 (.mov 6),p 18 (.build [(.int .i64 0),(.int .i64 0),(.str []),(.int .i64 0),(.int .i64 0)]
 [(0,3,15),(3,1,16),(4,1,17)]),w 19 (.call 14 [18]),p 20 (.un .not 19),p 21 (.mov 20),pg 22 21 false (.mov 6),pg 23 21 false (.bin .neq 22 (.k (.int .i64 0))),p 24 (.pick
 21 (.k (.bool true)) 23)]) (.cond 24 .ret .skip)) (.seq (.keep [0,1,5]) (.reg [p 25 (.mov 5),p 3 (.mov 25)])))))))
def scan_tokens_1:MFun:=⟨2,[],(.seq (.reg [p 3 (.mov (.k (.int .i64 0)))]) (.block 0 (.loop scan_tokens_1_l0)))⟩
def scan_reader_quoted:MFun:=⟨1,[.cell 2 (some 3),.t 3,.t 4],(.seq (.reg [n 2 (.alloc 134 true [(.int .i64 0),(.int .i64 0),(.str [])]),p 3 (.mov (.k (.int .i64 0))),p 4
 (.mov (.k (.int .i64 0)))]) (.seq (.regd [.op 0 (p 9 (.mov 0)),.op 1 (p 10 (.nilck 9)),.op 2 (p 11 (.faddr 0 10)),.op 3 (p 12 (.faddr 0 11)),.op 4 (r 13 (.load none 12)),.op 5
 (p 14 (.mov 0)),.op 6 (p 15 (.nilck 14)),.op 7 (p 16 (.faddr 0 15)),.op 8 (p 17 (.faddr 1 16)),.op 9 (r 18 (.load none 17)),.op 10 (p 19 (.subS 13 (some 18) none)),.op 11 (w 20
 (.call (.k (.fn 69 [] [])) [19])),.op 12 (p 8 (.mov 20)),.op 13 (p 21 (.extr 0 8)),.op 14 (p 22 (.extr 1 8)),.op 15 (p 23 (.extr 2 8)),.op 16 (p 5 (.mov 21)),.op 17 (p 6 (.mov
 22)),.op 18 (p 7 (.mov 23))]) (.seq (.keep [2,5,6,7]) (.seq (.seq (.reg [p 24 (.mov 7)]) (.block 0 (.seq (.reg [p 26 (.bin .eql 24 (.k (.int .i64 0))),p 25 (.mov 26)]) (.cond 25
 (.seq (.reg [p 27 (.mov 5),p 28 (.mov 6),w 29 (.call (.k (.fn 209 [] [])) [(.k (.int .i64 6)),27,28]),p 30 (.extr 0 29),p 31 (.extr 1 29),p 32 (.extr 2 29),w0 (.store 3 2 30),
 p 3 (.mov 31),p 4 (.mov 32)]) .ret) (.seq (.reg [p 34 (.bin .eql 24 (.k (.int .i64 26))),p 33 (.mov 34)]) (.cond 33 (.seq (.reg [p 35 (.build [(.int .i64 0),(.int .i64 0),(.str
 [])] []),p 36 (.mov 7),w0 (.store 3 2 35),p 3 (.mov (.k (.int .i64 0))),p 4 (.mov 36)]) .ret) .skip)))))) (.seq (.keep [2]) (.seq (.reg [p 37 (.build [(.int .i64 0),(.int .i64
 0),(.str [])] []),w0 (.store 3 2 37),p 3 (.mov (.k (.int .i64 0))),p 4 (.mov (.k (.int .i64 37)))]) .ret))))))⟩
def scan_reader_stray:MFun:=⟨1,[.cell 2 (some 3),.t 3,.t 4],(.seq (.reg [n 2 (.alloc 134 true [(.int .i64 0),(.int .i64 0),(.str [])]),p 3 (.mov (.k (.int .i64 0))),p 4
 (.mov (.k (.int .i64 0)))]) (.seq (.reg [p 5 (.build [(.int .i64 0),(.int .i64 0),(.str [])] []),w0 (.store 3 2 5),p 3 (.mov (.k (.int .i64 0))),p 4 (.mov (.k (.int .i64 37)))])
 .ret))⟩
def scan_reader_brace:MFun:=⟨1,[.cell 2 (some 3),.t 3,.t 4],(.seq (.reg [n 2 (.alloc 134 true [(.int .i64 0),(.int .i64 0),(.str [])]),p 3 (.mov (.k (.int .i64 0))),p 4
 (.mov (.k (.int .i64 0)))]) (.seq (.seq (.regd [.op 0 (p 5 (.mov 0)),.op 1 (p 6 (.nilck 5)),.op 2 (p 7 (.faddr 0 6)),.op 3 (p 8 (.faddr 0 7)),.op 4 (r 9 (.load none 8)),.op 5 (p
 10 (.mov 0)),.op 6 (p 11 (.nilck 10)),.op 7 (p 12 (.faddr 0 11)),.op 8 (p 13 (.faddr 1 12)),.op 9 (r 14 (.load none 13)),.op 10 (p 15 (.idxS 9 14)),.op 11 (p 16 (.bin .eql 15
 (.k (.int .u8 123))))]) (.seq (.keep [2,16]) (.cond 16 (.seq (.reg [p 17 (.build [(.int .i64 0),(.int .i64 0),(.str [])] [(0,1,(.k (.int .i64 7)))]),w0 (.store 3 2 17),p 3 (.mov
 (.k (.int .i64 1))),p 4 (.mov (.k (.int .i64 0)))]) .ret) .skip))) (.seq (.keep [2]) (.seq (.reg [p 18 (.build [(.int .i64 0),(.int .i64 0),(.str [])] [(0,1,(.k (.int .i64 8)))]),
 w0 (.store 3 2 18),p 3 (.mov (.k (.int .i64 1))),p 4 (.mov (.k (.int .i64 0)))]) .ret))))⟩
def scan_reader_bracket:MFun:=⟨1,[.cell 2 (some 3),.t 3,.t 4],(.seq (.reg [n 2 (.alloc 134 true [(.int .i64 0),(.int .i64 0),(.str [])]),p 3 (.mov (.k (.int .i64 0))),p
 4 (.mov (.k (.int .i64 0)))]) (.seq (.regd [.op 0 (p 5 (.mov 0)),.op 1 (p 6 (.nilck 5)),.op 2 (p 7 (.faddr 0 6)),.op 3 (p 8 (.faddr 0 7)),.op 4 (r 9 (.load none 8)),.op 5 (p 10
 (.mov 0)),.op 6 (p 11 (.nilck 10)),.op 7 (p 12 (.faddr 0 11)),.op 8 (p 13 (.faddr 1 12)),.op 9 (r 14 (.load none 13)),.op 10 (p 15 (.mov 0)),.op 11 (p 16 (.nilck 15)),.op 12
 (p 17 (.faddr 0 16)),.op 13 (p 18 (.faddr 1 17)),.op 14 (r 19 (.load none 18)),.op 15 (p 20 (.bin .add 19 (.k (.int .i64 1)))),.op 16 (p 21 (.subS 9 (some 14) (some 20))),.op 17
 (w 22 (.call (.k (.fn 209 [] [])) [(.k (.int .i64 3)),21,(.k (.int .i64 1))])),.op 18 (p 23 (.extr 0 22)),.op 19 (p 24 (.extr 1 22)),.op 20 (p 25 (.extr 2 22)),.op 21 (w0 (.store
 3 2 23)),.op 22 (p 3 (.mov 24)),.op 23 (p 4 (.mov 25))]) .ret))⟩
def scan_reader_less:MFun:=⟨1,[.cell 2 (some 3),.t 3,.t 4],(.seq (.reg [n 2 (.alloc 134 true [(.int .i64 0),(.int .i64 0),(.str [])]),p 3 (.mov (.k (.int .i64 0))),p 4 (.mov
 (.k (.int .i64 0)))]) (.seq (.seq (.reg [p 10 (.mov 0),w 11 (.call (.k (.fn 210 [] [])) [10,(.k (.int .u8 60))])]) (.cond 11 (.seq (.reg [w 12 (.call (.k (.fn 209 [] [])) [(.k (.int
 .i64 3)),(.k (.str [60,60])),(.k (.int .i64 2))]),p 13 (.extr 0 12),p 14 (.extr 1 12),p 15 (.extr 2 12),w0 (.store 3 2 13),p 3 (.mov 14),p 4 (.mov 15)]) .ret) .skip)) (.seq
 (.keep [0,2]) (.seq (.reg [p 5 (.mov (.k (.int .i64 1))),p 6 (.mov (.k (.fn 211 [] [])))]) (.seq (.seq (.reg [p 16 (.mov 0),w 17 (.call (.k (.fn 210 [] [])) [16,(.k (.int .u8 126))])])
 (.cond 17 (.reg [p 5 (.mov (.k (.int .i64 2))),p 6 (.mov (.k (.fn 212 [] [])))]) .skip)) (.seq (.regd [.op 1 (p 20 (.mov 0)),.op 2 (p 21 (.nilck 20)),.op 3 (p 22 (.faddr 0 21)),
 .op 4 (p 23 (.faddr 0 22)),.op 5 (r 24 (.load none 23)),.op 6 (p 25 (.mov 0)),.op 7 (p 26 (.nilck 25)),.op 8 (p 27 (.faddr 0 26)),.op 9 (p 28 (.faddr 1 27)),.op 10 (r 29 (.load
 none 28)),.op 0 (p 19 (.mov 6)),.op 11 (p 30 (.mov 5)),.op 12 (p 31 (.bin .add 29 30)),.op 13 (p 32 (.subS 24 (some 31) none)),.op 14 (w 33 (.call 19 [32])),.op 15 (p 18 (.mov
 33)),.op 16 (p 34 (.extr 0 18)),.op 17 (p 35 (.extr 1 18)),.op 18 (p 36 (.extr 2 18)),.op 19 (p 7 (.mov 34)),.op 20 (p 8 (.mov 35)),.op 21 (p 9 (.mov 36))]) (.seq (.keep [2,5,
 7,8,9]) (.seq (.seq (.reg [p 37 (.mov 9)]) (.block 0 (.seq (.reg [p 39 (.bin .eql 37 (.k (.int .i64 0))),p 38 (.mov 39)]) (.cond 38 (.seq (.reg [p 40 (.mov 7),p 41 (.mov 5),p 42
 (.mov 8),p 43 (.bin .add 41 42),w 44 (.call (.k (.fn 209 [] [])) [(.k (.int .i64 6)),40,43]),p 45 (.extr 0 44),p 46 (.extr 1 44),p 47 (.extr 2 44),w0 (.store 3 2 45),p 3 (.mov
 46),p 4 (.mov 47)]) .ret) (.seq (.reg [p 49 (.bin .eql 37 (.k (.int .i64 3))),p 48 (.mov 49)]) (.cond 48 (.seq (.reg [p 50 (.build [(.int .i64 0),(.int .i64 0),(.str [])] []),w0
 (.store 3 2 50),p 3 (.mov (.k (.int .i64 0))),p 4 (.mov (.k (.int .i64 26)))]) .ret) .skip)))))) (.seq (.keep [2]) (.seq (.reg [p 51 (.build [(.int .i64 0),(.int .i64 0),(.str [])]
 []),w0 (.store 3 2 51),p 3 (.mov (.k (.int .i64 0))),p 4 (.mov (.k (.int .i64 37)))]) .ret))))))))))⟩
def scan_reader_greater:MFun:=⟨1,[.cell 2 (some 3),.t 3,.t 4],(.seq (.reg [n 2 (.alloc 134 true [(.int .i64 0),(.int .i64 0),(.str [])]),p 3 (.mov (.k (.int .i64 0))),p
 4 (.mov (.k (.int .i64 0)))]) (.seq (.seq (.reg [p 5 (.mov 0),w 6 (.call (.k (.fn 210 [] [])) [5,(.k (.int .u8 62))])]) (.cond 6 (.seq (.reg [w 7 (.call (.k (.fn 209 [] [])) [(.k
 (.int .i64 3)),(.k (.str [62,62])),(.k (.int .i64 2))]),p 8 (.extr 0 7),p 9 (.extr 1 7),p 10 (.extr 2 7),w0 (.store 3 2 8),p 3 (.mov 9),p 4 (.mov 10)]) .ret) .skip)) (.seq
 (.keep [2]) (.seq (.reg [p 11 (.build [(.int .i64 0),(.int .i64 0),(.str [])] []),w0 (.store 3 2 11),p 3 (.mov (.k (.int .i64 0))),p 4 (.mov (.k (.int .i64 37)))]) .ret))))⟩
def scan_reader_slash:MFun:=⟨1,[.cell 2 (some 3),.t 3,.t 4],(.seq (.reg [n 2 (.alloc 134 true [(.int .i64 0),(.int .i64 0),(.str [])]),p 3 (.mov (.k (.int .i64 0))),p 4
 (.mov (.k (.int .i64 0)))]) (.seq (.reg [p 5 (.mov (.k (.int .i64 4))),p 6 (.mov (.k (.int .i64 1)))]) (.seq (.seq (.reg [p 9 (.mov 0),w 10 (.call (.k (.fn 210 [] [])) [9,(.k (.int
 .u8 47))])]) (.cond 10 (.reg [p 5 (.mov (.k (.int .i64 5))),p 6 (.mov (.k (.int .i64 2)))]) .skip)) (.seq (.regd [.op 0 (p 11 (.mov 0)),.op 1 (p 12 (.nilck 11)),.op 2 (p 13 (.faddr
 0 12)),.op 3 (p 14 (.faddr 0 13)),.op 4 (r 15 (.load none 14)),.op 5 (p 16 (.mov 0)),.op 6 (p 17 (.nilck 16)),.op 7 (p 18 (.faddr 0 17)),.op 8 (p 19 (.faddr 1 18)),.op 9 (r 20
 (.load none 19)),.op 10 (p 21 (.mov 6)),.op 11 (p 22 (.bin .add 20 21)),.op 12 (p 23 (.subS 15 (some 22) none)),.op 13 (p 7 (.mov 23))]) (.seq (.keep [2,5,6,7]) (.seq (.reg [p
 24 (.mov 7),w 25 (.call (.k (.fn 182 [] [])) [24,(.k (.fn 67 [] []))]),p 8 (.mov 25)]) (.seq (.reg [p 26 (.mov 5),p 27 (.mov 7),p 28 (.mov 8),p 29 (.subS 27 none (some 28)),p
 30 (.mov 6),p 31 (.mov 8),p 32 (.bin .add 30 31),w 33 (.call (.k (.fn 209 [] [])) [26,29,32]),p 34 (.extr 0 33),p 35 (.extr 1 33),p 36 (.extr 2 33),w0 (.store 3 2 34),p 3
 (.mov 35),p 4 (.mov 36)]) .ret)))))))⟩
def scan_reader_fixed:MFun:=⟨3,[.cell 6 (some 3),.t 7,.t 8],(.seq (.reg [n 6 (.alloc 134 true [(.int .i64 0),(.int .i64 0),(.str [])]),p 7 (.mov (.k (.int .i64 0))),p 8
 (.mov (.k (.int .i64 0)))]) (.seq (.regd [.op 0 (p 10 (.mov 0)),.op 1 (p 11 (.nilck 10)),.op 2 (p 12 (.faddr 0 11)),.op 3 (p 13 (.faddr 0 12)),.op 4 (r 14 (.load none 13)),.op
 5 (p 15 (.mov 0)),.op 6 (p 16 (.nilck 15)),.op 7 (p 17 (.faddr 0 16)),.op 8 (p 18 (.faddr 1 17)),.op 9 (r 19 (.load none 18)),.op 10 (p 20 (.bin .add 19 (.k (.int .i64 1)))),.op
 11 (p 21 (.subS 14 (some 20) none)),.op 12 (p 9 (.mov 21))]) (.seq (.keep [0,1,2,6,9]) (.seq (.seq (.reg [p 22 (.mov 9),p 23 (.lenOf true 22),p 24 (.mov 2),p 25 (.bin .lss 23
 24)]) (.cond 25 (.seq (.reg [p 26 (.mov 0),w 27 (.call (.k (.fn 194 [] [])) [26]),p 28 (.extr 0 27),p 29 (.extr 1 27),p 30 (.extr 2 27),w0 (.store 3 6 28),p 7 (.mov 29),p 8 (.mov
 30)]) .ret) .skip)) (.seq (.keep [1,2,6,9]) (.seq (.reg [p 31 (.mov 1),p 32 (.mov 9),p 33 (.mov 2),p 34 (.subS 32 none (some 33)),w 35 (.call (.k (.fn 213 [] [])) [34]),p 36
 (.build [(.int .i64 0),(.int .i64 0),(.str [])] [(0,1,31),(1,1,35)]),p 37 (.mov 2),p 38 (.bin .add (.k (.int .i64 1)) 37),w0 (.store 3 6 36),p 7 (.mov 38),p 8 (.mov (.k
 (.int .i64 0)))]) .ret))))))⟩
def scan_reader_counted_l0:MCode:=(.seq (.keep [0,1,2,6,9,10,33,34]) (.seq (.reg [p 35 (.bin .lss 34 33)]) (.seq (.cond 35 .skip (.exit 0)) (.seq (.block 1 (.seq (.reg [p
 36 (.mov 34),p 11 (.mov 36)]) (.reg [p 37 (.mov 10),p 38 (.bin .shl 37 (.k (.int .u64 8))),p 39 (.mov 9),p 40 (.mov 11),p 41 (.idxS 39 40),p 42 (.conv .i64 41),p 43 (.bin .or
 38 42),p 10 (.mov 43)]))) (.seq (.keep [0,1,2,6,9,10,33,34]) (.reg [p 44 (.bin .add 34 (.k (.int .i64 1))),p 34 (.mov 44)]))))))
def scan_reader_counted:MFun:=⟨3,[.cell 6 (some 3),.t 7,.t 8],(.seq (.reg [n 6 (.alloc 134 true [(.int .i64 0),(.int .i64 0),(.str [])]),p 7 (.mov (.k (.int .i64 0))),p
 8 (.mov (.k (.int .i64 0)))]) (.seq (.regd [.op 0 (p 12 (.mov 0)),.op 1 (p 13 (.nilck 12)),.op 2 (p 14 (.faddr 0 13)),.op 3 (p 15 (.faddr 0 14)),.op 4 (r 16 (.load none 15)),.op
 5 (p 17 (.mov 0)),.op 6 (p 18 (.nilck 17)),.op 7 (p 19 (.faddr 0 18)),.op 8 (p 20 (.faddr 1 19)),.op 9 (r 21 (.load none 20)),.op 10 (p 22 (.bin .add 21 (.k (.int .i64 1)))),.op
 11 (p 23 (.subS 16 (some 22) none)),.op 12 (p 9 (.mov 23))]) (.seq (.keep [0,1,2,6,9]) (.seq (.seq (.reg [p 24 (.mov 9),p 25 (.lenOf true 24),p 26 (.mov 2),p 27 (.bin .lss 25
 26)]) (.cond 27 (.seq (.reg [p 28 (.mov 0),w 29 (.call (.k (.fn 194 [] [])) [28]),p 30 (.extr 0 29),p 31 (.extr 1 29),p 32 (.extr 2 29),w0 (.store 3 6 30),p 7 (.mov 31),p 8 (.mov
 32)]) .ret) .skip)) (.seq (.keep [0,1,2,6,9]) (.seq (.reg [p 10 (.mov (.k (.int .i64 0)))]) (.seq (.seq (.reg [p 33 (.mov 2),p 34 (.mov (.k (.int .i64 0)))]) (.block 0 (.loop scan_reader_counted_l0)))
 (.seq (.keep [0,1,2,6,9,10]) (.seq (.reg [p 45 (.mov 9),p 46 (.mov 2),p 47 (.subS 45 (some 46) none),p 9 (.mov 47)]) (.seq (.seq (.reg [p 48 (.mov 9),p 49 (.lenOf true 48),
 p 50 (.mov 10),p 51 (.bin .lss 49 50)]) (.cond 51 (.seq (.reg [p 52 (.mov 0),w 53 (.call (.k (.fn 194 [] [])) [52]),p 54 (.extr 0 53),p 55 (.extr 1 53),p 56 (.extr 2 53),w0 (.store
 3 6 54),p 7 (.mov 55),p 8 (.mov 56)]) .ret) .skip)) (.seq (.keep [1,2,6,9,10]) (.seq (.reg [p 57 (.mov 1),p 58 (.mov 9),p 59 (.mov 10),p 60 (.subS 58 none (some 59)),p 61
 (.mov 2),p 62 (.bin .add (.k (.int .i64 1)) 61),p 63 (.mov 10),p 64 (.bin .add 62 63),w 65 (.call (.k (.fn 209 [] [])) [57,60,64]),p 66 (.extr 0 65),p 67 (.extr 1 65),p 68
 (.extr 2 65),w0 (.store 3 6 66),p 7 (.mov 67),p 8 (.mov 68)]) .ret))))))))))))⟩
def scan_text:MFun:=⟨3,[.cell 6 (some 3),.t 7,.t 8],(.seq (.reg [n 6 (.alloc 134 true [(.int .i64 0),(.int .i64 0),(.str [])]),p 7 (.mov (.k (.int .i64 0))),p 8 (.mov (.k
 (.int .i64 0)))]) (.seq (.reg [p 10 (.mov 0),p 11 (.mov 1),p 12 (.build [(.int .i64 0),(.int .i64 0),(.str [])] [(0,1,10),(2,1,11)]),n 9 (.alloc 134 true [(.int .i64 0),(.int
 .i64 0),(.str [])]),w0 (.store 3 9 12)]) (.seq (.block 0 (.seq (.seq (.reg [p 14 (.mov 0),p 15 (.bin .eql 14 (.k (.int .i64 6))),p 16 (.mov 15),pg 17 16 true (.mov 1),pg 18 16
 true (.lenOf true 17),pg 19 16 true (.bin .gtr 18 (.k (.int .i64 1000))),p 20 (.pick 16 19 (.k (.bool false))),p 13 (.mov 20)]) (.seq (.keep [0,1,2,6,9,13]) (.cond 13 .skip
 (.reg [p 21 (.mov 0),p 22 (.bin .neq 21 (.k (.int .i64 6))),p 23 (.mov 22),pg 24 23 true (.mov 1),pg 25 23 true (.lenOf true 24),pg 26 23 true (.bin .gtr 25 (.k (.int .i64 100))),
 p 27 (.pick 23 26 (.k (.bool false))),p 13 (.mov 27)])))) (.seq (.keep [2,6,9,13]) (.cond 13 (.seq (.reg [p 28 (.build [(.int .i64 0),(.int .i64 0),(.str [])] []),w0 (.store
 3 6 28),p 7 (.mov (.k (.int .i64 0))),p 8 (.mov (.k (.int .i64 26)))]) .ret) (.seq (.reg [r 30 (.load (some 3) 9),w 31 (.call (.k (.fn 74 [] [])) [30]),p 32 (.bin .neq 31 (.k (.int
 .i64 0))),p 29 (.mov 32)]) (.cond 29 (.seq (.reg [p 33 (.build [(.int .i64 0),(.int .i64 0),(.str [])] []),w0 (.store 3 6 33),p 7 (.mov (.k (.int .i64 0))),p 8 (.mov (.k (.int
 .i64 37)))]) .ret) .skip)))))) (.seq (.keep [2,6,9]) (.seq (.reg [r 34 (.load (some 3) 9),p 35 (.mov 2),w0 (.store 3 6 34),p 7 (.mov 35),p 8 (.mov (.k (.int .i64 0)))]) .ret)))))⟩
def scan_reader_follows:MFun:=⟨2,[.t 4],(.seq (.reg [p 4 (.mov (.k (.bool false)))]) (.seq (.regd [.op 0 (p 5 (.mov 0)),.op 1 (p 6 (.nilck 5)),.op 2 (p 7 (.faddr 0 6)),.op
 3 (p 8 (.faddr 1 7)),.op 4 (r 9 (.load none 8)),.op 6 (p 11 (.mov 0)),.op 7 (p 12 (.nilck 11)),.op 8 (p 13 (.faddr 0 12)),.op 9 (p 14 (.faddr 0 13)),.op 10 (r 15 (.load none 14)),
 .op 5 (p 10 (.bin .add 9 (.k (.int .i64 1)))),.op 11 (p 16 (.lenOf true 15)),.op 12 (p 17 (.bin .lss 10 16)),.op 13 (p 18 (.mov 17)),.op 14 (pg 19 18 true (.mov 0)),.op 15 (pg
 20 18 true (.nilck 19)),.op 16 (pg 21 18 true (.faddr 0 20)),.op 17 (pg 22 18 true (.faddr 0 21)),.op 18 (rg 23 18 true (.load none 22)),.op 19 (pg 24 18 true (.mov 0)),.op 20
 (pg 25 18 true (.nilck 24)),.op 21 (pg 26 18 true (.faddr 0 25)),.op 22 (pg 27 18 true (.faddr 1 26)),.op 23 (rg 28 18 true (.load none 27)),.op 24 (pg 29 18 true (.bin .add 28
 (.k (.int .i64 1)))),.op 25 (pg 30 18 true (.idxS 23 29)),.op 26 (pg 31 18 true (.mov 1)),.op 27 (pg 32 18 true (.bin .eql 30 31)),.op 28 (p 33 (.pick 18 32 (.k (.bool false)))),
 .op 29 (p 4 (.mov 33))]) .ret))⟩
def ascii_Unhex:MFun:=⟨1,[.t 2,.t 3,.t 4],(.seq (.reg [p 2 (.mov (.k (.str []))),p 3 (.mov (.k (.int .i64 0))),p 4 (.mov (.k (.int .i64 0)))]) (.seq (.reg [p 5 (.mov 0),p
 6 (.build [(.int .i64 0),(.bool false)] []),n 7 (.box 301 false 6),w 8 (.call (.k (.fn 214 [] [])) [5,7,(.k (.fn 215 [] []))]),p 9 (.extr 0 8),p 10 (.extr 1 8),p 11 (.extr 2
 8),p 2 (.mov 9),p 3 (.mov 10),p 4 (.mov 11)]) .ret))⟩
def ascii_Unbase85:MFun:=⟨1,[.t 2,.t 3,.t 4],(.seq (.reg [p 2 (.mov (.k (.str []))),p 3 (.mov (.k (.int .i64 0))),p 4 (.mov (.k (.int .i64 0)))]) (.seq (.reg [p 5 (.mov 0),
 p 6 (.build [.nilslice,(.bool false)] []),n 7 (.box 307 false 6),w 8 (.call (.k (.fn 216 [] [])) [5,7,(.k (.fn 217 [] []))]),p 9 (.extr 0 8),p 10 (.extr 1 8),p 11 (.extr 2 8),
 p 2 (.mov 9),p 3 (.mov 10),p 4 (.mov 11)]) .ret))⟩
def scan_number_l0:MCode:=(.seq (.keep [0,3,9,10]) (.seq (.reg [p 11 (.bin .lss 10 9)]) (.seq (.cond 11 .skip (.exit 0)) (.seq (.block 1 (.seq (.reg [p 12 (.mov 10),p 4 (.mov
 12)]) (.reg [p 13 (.mov 3),p 14 (.bin .shl 13 (.k (.int .u64 8))),p 15 (.mov 0),p 16 (.mov 4),p 17 (.idxS 15 16),p 18 (.conv .i64 17),p 19 (.bin .or 14 18),p 3 (.mov 19)])))
 (.seq (.keep [0,3,9,10]) (.reg [p 20 (.bin .add 10 (.k (.int .i64 1))),p 10 (.mov 20)]))))))
def scan_number:MFun:=⟨1,[.t 2],(.seq (.reg [p 2 (.mov (.k (.int .i64 0)))]) (.seq (.reg [p 3 (.mov (.k (.int .i64 0)))]) (.seq (.seq (.reg [p 5 (.mov 0),p 6 (.idxS 5 (.k (.int
 .i64 0))),p 7 (.bin .geq 6 (.k (.int .u8 128)))]) (.cond 7 (.reg [p 3 (.mov (.k (.int .i64 (-1))))]) .skip)) (.seq (.seq (.reg [p 8 (.mov 0),p 9 (.lenOf true 8),p 10 (.mov (.k (.int
 .i64 0)))]) (.block 0 (.loop scan_number_l0))) (.seq (.keep [3]) (.seq (.reg [p 21 (.mov 3),p 2 (.mov 21)]) .ret))))))⟩
def ascii_read_ascii_half_l0:MCode:=(.block 1 (.seq (.reg [r 24 (.load none 5),r 25 (.load none 4),p 26 (.mov 13),r 27 (.load none 10),w 28 (.call 24 [25,26,27])]) (.block
 2 (.seq (.reg [p 30 (.bin .eql 28 (.k (.int .i64 1))),p 29 (.mov 30)]) (.cond 29 (.seq (.reg [p 31 (.mov 12),p 32 (.bin .add 31 (.k (.int .i64 1))),w0 (.store 1 11 32)]) (.exit 0))
 (.seq (.reg [p 34 (.bin .eql 28 (.k (.int .i64 2))),p 33 (.mov 34)]) (.cond 33 (.seq (.reg [w0 (.store 1 6 (.k (.str []))),w0 (.store 1 7 (.k (.int .i64 0))),w0 (.store 1 8 (.k (.int
 .i64 5)))]) .ret) .skip)))))))
def ascii_read_ascii_half:MFun:=⟨3,[.cell 6 none,.cell 7 none,.cell 8 none],(.seq (.reg [n 4 (.box 302 true 1),n 5 (.box 303 true 2),n 6 (.alloc 9 true [(.str [])]),n 7 (.alloc
 3 true [(.int .i64 0)]),n 8 (.alloc 30 true [(.int .i64 0)])]) (.scope (.seq (.seq (.reg [p 16 (.mov 0),p 17 (.lenOf true 16),p 18 (.bin .gtr 17 (.k (.int .i64 65536)))]) (.cond
 18 (.seq (.reg [w0 (.store 1 6 (.k (.str []))),w0 (.store 1 7 (.k (.int .i64 0))),w0 (.store 1 8 (.k (.int .i64 3)))]) .ret) .skip)) (.seq (.reg [n 9 (.alloc 35 false [.nilslice])])
 (.seq (.reg [p 19 (.mkfn 218 [] [9]),n 10 (.alloc 310 true [.nilfn]),w0 (.store 1 10 19)]) (.seq (.reg [n 11 (.alloc 3 true [(.int .i64 0)]),w0 (.store 1 11 (.k (.int .i64 0)))])
 (.seq .skip (.seq (.seq (.reg [p 20 (.mov 0),w 21 (.call (.k (.fn 219 [] [])) [20])]) (.block 0 (.rangeFunc 21 [22,23] (.seq (.reg [p 12 (.mov 22)]) (.reg [p 13 (.mov 23)])) ascii_read_ascii_half_l0)))
 (.seq (.keep [6,7,8,9,11]) (.seq (.seq (.reg [r 35 (.load none 11),p 36 (.bin .eql 35 (.k (.int .i64 0)))]) (.cond 36 (.seq (.reg [w0 (.store 1 6 (.k (.str []))),w0 (.store 1
 7 (.k (.int .i64 0))),w0 (.store 1 8 (.k (.int .i64 5)))]) .ret) .skip)) (.seq (.reg [r 38 (.load none 9),r 39 (.b2s 38),w 40 (.call (.k (.fn 220 [] [])) [39]),p 37 (.mov 40),p
 41 (.extr 0 37),p 42 (.extr 1 37),p 14 (.mov 41),p 15 (.mov 42)]) (.seq (.keep [6,7,8,11,14,15]) (.seq (.seq (.reg [p 43 (.mov 15),p 44 (.bin .neq 43 (.k (.int .i64 0)))])
 (.cond 44 (.seq (.reg [p 45 (.mov 15),w0 (.store 1 6 (.k (.str []))),w0 (.store 1 7 (.k (.int .i64 0))),w0 (.store 1 8 45)]) .ret) .skip)) (.seq (.regd [.op 1 (r 47 (.load none 11)),
 .op 0 (p 46 (.mov 14)),.op 2 (w0 (.store 1 6 46)),.re 1,.op 3 (w0 (.store 1 7 47)),.op 4 (w0 (.store 1 8 (.k (.int .i64 0))))]) .ret))))))))))))))⟩
def ascii_half_take:MFun:=⟨3,[.t 6],(.seq (.reg [p 6 (.mov (.k (.int .i64 0)))]) (.seq (.reg [p 8 (.mov 1),w 9 (.call (.k (.fn 221 [] [])) [8]),p 7 (.mov 9)]) (.seq (.block
 0 (.seq (.reg [p 11 (.mov 1),p 12 (.bin .eql 11 (.k (.int .u8 62))),p 10 (.mov 12)]) (.cond 10 (.seq (.seq (.reg [p 13 (.mov 0),p 14 (.nilck 13),p 15 (.faddr 1 14),r 16 (.load
 none 15)]) (.cond 16 (.reg [p 17 (.mov 2),p 18 (.mov 0),p 19 (.nilck 18),p 20 (.faddr 0 19),r 21 (.load none 20),p 22 (.bin .shl 21 (.k (.int .u64 4))),p 23 (.conv .u8 22),n
 24 (.buildSl 5 1 [(.int .u8 0)] [(0,1,23)]),w 25 (.call 17 [24])]) .skip)) (.seq (.keep []) (.seq (.reg [p 6 (.mov (.k (.int .i64 1)))]) .ret))) (.seq (.reg [p 27 (.mov 7),p 28
 (.bin .lss 27 (.k (.int .i64 0))),p 26 (.mov 28)]) (.cond 26 (.seq (.reg [p 6 (.mov (.k (.int .i64 2)))]) .ret) (.seq (.reg [p 30 (.mov 0),p 31 (.nilck 30),p 32 (.faddr 1 31),r
 33 (.load none 32),p 29 (.mov 33)]) (.cond 29 (.reg [p 34 (.mov 2),p 35 (.mov 0),p 36 (.nilck 35),p 37 (.faddr 0 36),r 38 (.load none 37),p 39 (.bin .shl 38 (.k (.int .u64 4))),
 p 40 (.mov 7),p 41 (.bin .or 39 40),p 42 (.conv .u8 41),n 43 (.buildSl 5 1 [(.int .u8 0)] [(0,1,42)]),w 44 (.call 34 [43])]) .skip))))))) (.seq (.keep [0,7]) (.seq (.reg [p 45
 (.mov 0),p 46 (.mov 0),p 47 (.mov 7),p 48 (.mov 0),p 49 (.nilck 48),p 50 (.faddr 1 49),r 51 (.load none 50),p 52 (.un .not 51),p 53 (.nilck 45),p 54 (.faddr 0 53),w0 (.store
 1 54 47),p 55 (.nilck 46),p 56 (.faddr 1 55),w0 (.store 1 56 52)]) (.seq (.keep []) (.seq (.reg [p 6 (.mov (.k (.int .i64 0)))]) .ret)))))))⟩
def ascii_read_ascii_tens_l0:MCode:=(.block 1 (.seq (.reg [r 24 (.load none 5),r 25 (.load none 4),p 26 (.mov 13),r 27 (.load none 10),w 28 (.call 24 [25,26,27])]) (.block
 2 (.seq (.reg [p 30 (.bin .eql 28 (.k (.int .i64 1))),p 29 (.mov 30)]) (.cond 29 (.seq (.reg [p 31 (.mov 12),p 32 (.bin .add 31 (.k (.int .i64 1))),w0 (.store 1 11 32)]) (.exit 0))
 (.seq (.reg [p 34 (.bin .eql 28 (.k (.int .i64 2))),p 33 (.mov 34)]) (.cond 33 (.seq (.reg [w0 (.store 1 6 (.k (.str []))),w0 (.store 1 7 (.k (.int .i64 0))),w0 (.store 1 8 (.k (.int
 .i64 5)))]) .ret) .skip)))))))
def ascii_read_ascii_tens:MFun:=⟨3,[.cell 6 none,.cell 7 none,.cell 8 none],(.seq (.reg [n 4 (.box 308 true 1),n 5 (.box 309 true 2),n 6 (.alloc 9 true [(.str [])]),n 7 (.alloc
 3 true [(.int .i64 0)]),n 8 (.alloc 30 true [(.int .i64 0)])]) (.scope (.seq (.seq (.reg [p 16 (.mov 0),p 17 (.lenOf true 16),p 18 (.bin .gtr 17 (.k (.int .i64 65536)))]) (.cond
 18 (.seq (.reg [w0 (.store 1 6 (.k (.str []))),w0 (.store 1 7 (.k (.int .i64 0))),w0 (.store 1 8 (.k (.int .i64 3)))]) .ret) .skip)) (.seq (.reg [n 9 (.alloc 35 false [.nilslice])])
 (.seq (.reg [p 19 (.mkfn 222 [] [9]),n 10 (.alloc 310 true [.nilfn]),w0 (.store 1 10 19)]) (.seq (.reg [n 11 (.alloc 3 true [(.int .i64 0)]),w0 (.store 1 11 (.k (.int .i64 0)))])
 (.seq .skip (.seq (.seq (.reg [p 20 (.mov 0),w 21 (.call (.k (.fn 219 [] [])) [20])]) (.block 0 (.rangeFunc 21 [22,23] (.seq (.reg [p 12 (.mov 22)]) (.reg [p 13 (.mov 23)])) ascii_read_ascii_tens_l0)))
 (.seq (.keep [6,7,8,9,11]) (.seq (.seq (.reg [r 35 (.load none 11),p 36 (.bin .eql 35 (.k (.int .i64 0)))]) (.cond 36 (.seq (.reg [w0 (.store 1 6 (.k (.str []))),w0 (.store 1
 7 (.k (.int .i64 0))),w0 (.store 1 8 (.k (.int .i64 5)))]) .ret) .skip)) (.seq (.reg [r 38 (.load none 9),r 39 (.b2s 38),w 40 (.call (.k (.fn 220 [] [])) [39]),p 37 (.mov 40),p
 41 (.extr 0 37),p 42 (.extr 1 37),p 14 (.mov 41),p 15 (.mov 42)]) (.seq (.keep [6,7,8,11,14,15]) (.seq (.seq (.reg [p 43 (.mov 15),p 44 (.bin .neq 43 (.k (.int .i64 0)))])
 (.cond 44 (.seq (.reg [p 45 (.mov 15),w0 (.store 1 6 (.k (.str []))),w0 (.store 1 7 (.k (.int .i64 0))),w0 (.store 1 8 45)]) .ret) .skip)) (.seq (.regd [.op 1 (r 47 (.load none 11)),
 .op 0 (p 46 (.mov 14)),.op 2 (w0 (.store 1 6 46)),.re 1,.op 3 (w0 (.store 1 7 47)),.op 4 (w0 (.store 1 8 (.k (.int .i64 0))))]) .ret))))))))))))))⟩
def ascii_tens_take:MFun:=⟨3,[.t 6],(.seq (.reg [p 6 (.mov (.k (.int .i64 0)))]) (.seq (.block 0 (.seq (.reg [p 42 (.mov 0),p 43 (.nilck 42),p 44 (.faddr 1 43),r 45 (.load
 none 44),p 41 (.mov 45)]) (.cond 41 (.seq (.seq (.reg [p 46 (.mov 1),p 47 (.bin .neq 46 (.k (.int .u8 62)))]) (.cond 47 (.seq (.reg [p 6 (.mov (.k (.int .i64 2)))]) .ret) .skip))
 (.seq (.reg [p 48 (.mov 0),p 49 (.mov 2),w 50 (.call (.k (.fn 223 [] [])) [48,49]),p 6 (.mov 50)]) .ret)) (.seq (.reg [p 52 (.mov 1),p 53 (.bin .eql 52 (.k (.int .u8 126))),p
 51 (.mov 53)]) (.cond 51 (.reg [p 54 (.mov 0),p 55 (.nilck 54),p 56 (.faddr 1 55),w0 (.store 1 56 (.k (.bool true)))]) (.seq (.reg [p 58 (.mov 1),p 59 (.bin .eql 58 (.k (.int .u8
 122))),p 57 (.mov 59)]) (.cond 57 (.seq (.seq (.reg [p 60 (.mov 0),p 61 (.nilck 60),p 62 (.faddr 0 61),r 63 (.load none 62),p 64 (.lenOf false 63),p 65 (.bin .gtr 64 (.k (.int
 .i64 0)))]) (.cond 65 (.seq (.reg [p 6 (.mov (.k (.int .i64 2)))]) .ret) .skip)) (.reg [p 66 (.mov 2),n 67 (.buildSl 5 4 [(.int .u8 0),(.int .u8 0),(.int .u8 0),(.int .u8 0)] [(0,
 1,(.k (.int .u8 0))),(1,1,(.k (.int .u8 0))),(2,1,(.k (.int .u8 0))),(3,1,(.k (.int .u8 0)))]),w 68 (.call 66 [67])])) (.seq (.reg [p 70 (.mov 1),p 71 (.bin .lss 70 (.k
 (.int .u8 33))),p 72 (.mov 71),pg 73 72 false (.mov 1),pg 74 72 false (.bin .gtr 73 (.k (.int .u8 117))),p 75 (.pick 72 (.k (.bool true)) 74),p 69 (.mov 75)]) (.cond 69 (.seq (.reg
 [p 6 (.mov (.k (.int .i64 2)))]) .ret) (.seq (.reg [p 9 (.mov 0),p 10 (.mov 0),p 11 (.nilck 10),p 12 (.faddr 0 11),r 13 (.load none 12),p 14 (.mov 1),n 15 (.buildSl 5 1 [(.int
 .u8 0)] [(0,1,14)]),w 16 (.append 5 1 1 [(.int .u8 0)] 13 15),p 17 (.nilck 9),p 18 (.faddr 0 17),w0 (.store 1 18 16)]) (.seq (.keep [0,2]) (.seq (.reg [p 19 (.mov 0),p 20 (.nilck
 19),p 21 (.faddr 0 20),r 22 (.load none 21),p 23 (.lenOf false 22),p 24 (.bin .eql 23 (.k (.int .i64 5)))]) (.cond 24 (.seq (.reg [p 26 (.mov 0),p 27 (.nilck 26),p 28 (.faddr
 0 27),r 29 (.load none 28),w 30 (.call (.k (.fn 224 [] [])) [29]),p 25 (.mov 30),p 31 (.extr 0 25),p 32 (.extr 1 25),n 7 (.alloc 318 false [(.int .u8 0),(.int .u8 0),(.int .u8
 0),(.int .u8 0)]),w0 (.store 4 7 31),p 8 (.mov 32)]) (.seq (.keep [0,2,7,8]) (.seq (.seq (.reg [p 33 (.mov 8),p 34 (.un .not 33)]) (.cond 34 (.seq (.reg [p 6 (.mov (.k (.int
 .i64 2)))]) .ret) .skip)) (.seq (.reg [p 35 (.mov 2),p 36 (.subA 4 1 7 none none none),w 37 (.call 35 [36])]) (.reg [p 38 (.mov 0),p 39 (.nilck 38),p 40 (.faddr 0 39),w0 (.store
 1 40 (.k .nilslice))]))))) .skip))))))))))))) (.seq (.keep []) (.seq (.reg [p 6 (.mov (.k (.int .i64 0)))]) .ret))))⟩
def ascii_read_ascii_half_1:MFun:=⟨2,[],(.reg [r 3 (.load none 1),p 4 (.mov 0),w 5 (.append 5 1 1 [(.int .u8 0)] 3 4),w0 (.store 1 1 5)])⟩
def ascii_solid:MFun:=⟨1,[.t 2],(.seq (.reg [n 1 (.box 9 false 0),p 2 (.mov (.k .nilfn))]) (.seq (.reg [p 3 (.mkfn 225 [] [1]),p 2 (.mov 3)]) .ret))⟩
def ascii_bounded:MFun:=⟨1,[.t 2,.t 3],(.seq (.reg [p 2 (.mov (.k (.str []))),p 3 (.mov (.k (.int .i64 0)))]) (.seq (.seq (.reg [p 4 (.mov 0),p 5 (.lenOf true 4),p 6 (.bin
 .gtr 5 (.k (.int .i64 65536)))]) (.cond 6 (.seq (.reg [p 2 (.mov (.k (.str []))),p 3 (.mov (.k (.int .i64 3)))]) .ret) .skip)) (.seq (.reg [p 7 (.mov 0),p 2 (.mov 7),p 3 (.mov (.k
 (.int .i64 0)))]) .ret)))⟩
def ascii_nibble:MFun:=⟨1,[.t 2],(.seq (.reg [p 2 (.mov (.k (.int .i64 0)))]) (.seq (.seq (.reg [p 3 (.mov 0),p 4 (.bin .geq 3 (.k (.int .u8 97))),p 5 (.mov 4),pg 6 5 true
 (.mov 0),pg 7 5 true (.bin .leq 6 (.k (.int .u8 102))),p 8 (.pick 5 7 (.k (.bool false)))]) (.cond 8 (.reg [p 9 (.mov 0),p 10 (.bin .sub 9 (.k (.int .u8 32))),p 0 (.mov 10)]) .skip))
 (.seq (.keep [0]) (.seq (.reg [p 11 (.mov 0),w 12 (.call (.k (.fn 84 [] [])) [(.k (.str [48,49,50,51,52,53,54,55,56,57,65,66,67,68,69,70])),11]),p 2 (.mov 12)]) .ret))))⟩
def ascii_read_ascii_tens_1:MFun:=⟨2,[],(.reg [r 3 (.load none 1),p 4 (.mov 0),w 5 (.append 5 1 1 [(.int .u8 0)] 3 4),w0 (.store 1 1 5)])⟩
def ascii_tens_close_l0:MCode:=(.seq (.keep [1,5,6]) (.seq (.seq (.reg [p 22 (.mov 6),p 23 (.lenOf false 22),p 24 (.bin .lss 23 (.k (.int .i64 5)))]) (.cond 24 .skip (.exit
 0))) (.block 1 (.reg [p 25 (.mov 6),n 26 (.buildSl 5 1 [(.int .u8 0)] [(0,1,(.k (.int .u8 117)))]),w 27 (.append 5 1 1 [(.int .u8 0)] 25 26),p 6 (.mov 27)]))))
def ascii_tens_close:MFun:=⟨2,[.t 4],(.seq (.reg [p 4 (.mov (.k (.int .i64 0)))]) (.seq (.reg [p 9 (.mov 0),p 10 (.nilck 9),p 11 (.faddr 0 10),r 12 (.load none 11),p 13 (.lenOf
 false 12),p 5 (.mov 13)]) (.seq (.seq (.reg [p 14 (.mov 5),p 15 (.bin .eql 14 (.k (.int .i64 1)))]) (.cond 15 (.seq (.reg [p 4 (.mov (.k (.int .i64 2)))]) .ret) .skip)) (.seq (.seq
 (.reg [p 16 (.mov 5),p 17 (.bin .gtr 16 (.k (.int .i64 1)))]) (.cond 17 (.seq (.reg [p 18 (.mov 0),p 19 (.nilck 18),p 20 (.faddr 0 19),r 21 (.load none 20),p 6 (.mov 21)]) (.seq
 (.block 0 (.loop ascii_tens_close_l0)) (.seq (.keep [1,5,6]) (.seq (.reg [p 29 (.mov 6),w 30 (.call (.k (.fn 224 [] [])) [29]),p 28 (.mov 30),p 31 (.extr 0 28),p 32 (.extr 1 28),
 n 7 (.alloc 318 false [(.int .u8 0),(.int .u8 0),(.int .u8 0),(.int .u8 0)]),w0 (.store 4 7 31),p 8 (.mov 32)]) (.seq (.keep [1,5,7,8]) (.seq (.seq (.reg [p 33 (.mov 8),p 34
 (.un .not 33)]) (.cond 34 (.seq (.reg [p 4 (.mov (.k (.int .i64 2)))]) .ret) .skip)) (.reg [p 35 (.mov 1),p 36 (.mov 5),p 37 (.bin .sub 36 (.k (.int .i64 1))),p 38 (.subA 4 1 7 none
 (some 37) none),w 39 (.call 35 [38])]))))))) .skip)) (.seq (.keep []) (.seq (.reg [p 4 (.mov (.k (.int .i64 1)))]) .ret))))))⟩
def ascii_fold_l0:MCode:=(.seq (.keep [2,4,7,8,9]) (.seq (.reg [p 10 (.bin .lss 9 8)]) (.seq (.cond 10 .skip (.exit 0)) (.seq (.block 1 (.seq (.reg [p 11 (.iaddrS 1 7 9),r
 12 (.load none 11),p 6 (.mov 12)]) (.reg [p 13 (.mov 4),p 14 (.bin .mul 13 (.k (.int .u64 85))),p 15 (.mov 6),p 16 (.bin .sub 15 (.k (.int .u8 33))),p 17 (.conv .u64 16),p 18
 (.bin .add 14 17),p 4 (.mov 18)]))) (.seq (.keep [2,4,7,8,9]) (.reg [p 19 (.bin .add 9 (.k (.int .i64 1))),p 9 (.mov 19)]))))))
def ascii_fold:MFun:=⟨1,[.cell 2 (some 4),.t 3],(.seq (.reg [n 2 (.alloc 318 true [(.int .u8 0),(.int .u8 0),(.int .u8 0),(.int .u8 0)]),p 3 (.mov (.k (.bool false)))]) (.seq
 (.reg [p 4 (.mov (.k (.int .u64 0)))]) (.seq (.seq (.reg [p 7 (.mov 0),p 8 (.lenOf false 7),p 9 (.mov (.k (.int .i64 0)))]) (.block 0 (.loop ascii_fold_l0))) (.seq (.keep [2,4])
 (.seq (.reg [p 20 (.mov 4),p 21 (.bin .shr 20 (.k (.int .u64 24))),p 22 (.conv .u8 21),p 23 (.mov 4),p 24 (.bin .shr 23 (.k (.int .u64 16))),p 25 (.conv .u8 24),p 26 (.mov 4),
 p 27 (.bin .shr 26 (.k (.int .u64 8))),p 28 (.conv .u8 27),p 29 (.mov 4),p 30 (.conv .u8 29),p 31 (.build [(.int .u8 0),(.int .u8 0),(.int .u8 0),(.int .u8 0)] [(0,1,22),(1,
 1,25),(2,1,28),(3,1,30)]),p 32 (.mov 4),p 33 (.bin .lss 32 (.k (.int .u64 4294967296))),w0 (.store 4 2 31),p 3 (.mov 33)]) .ret)))))⟩
def ascii_solid_1_l0:MCode:=(.seq (.keep [0,1,5,6]) (.seq (.reg [p 7 (.bin .lss 6 5)]) (.seq (.cond 7 .skip (.exit 0)) (.seq (.block 1 (.seq (.reg [p 8 (.mov 6),p 3 (.mov 8)])
 (.seq (.reg [r 9 (.load none 1),p 10 (.mov 3),p 11 (.idxS 9 10),w 12 (.call (.k (.fn 226 [] [])) [11]),p 13 (.un .not 12),p 14 (.mov 13),pg 15 14 true (.mov 0),pg 16 14 true
 (.mov 3),rg 17 14 true (.load none 1),pg 18 14 true (.mov 3),pg 19 14 true (.idxS 17 18),wg 20 14 true (.call 15 [16,19]),pg 21 14 true (.un .not 20),p 22 (.pick 14 21 (.k (.bool
 false)))]) (.cond 22 .ret .skip)))) (.seq (.keep [0,1,5,6]) (.reg [p 23 (.bin .add 6 (.k (.int .i64 1))),p 6 (.mov 23)]))))))
def ascii_solid_1:MFun:=⟨2,[],(.seq (.reg [r 4 (.load none 1),p 5 (.lenOf true 4),p 6 (.mov (.k (.int .i64 0)))]) (.block 0 (.loop ascii_solid_1_l0)))⟩
def ascii_blank:MFun:=⟨1,[.t 2],(.seq (.reg [p 2 (.mov (.k (.bool false)))]) (.seq (.reg [p 3 (.mov 0),p 4 (.bin .eql 3 (.k (.int .u8 0))),p 5 (.mov 4),pg 6 5 false (.mov 0),
 pg 7 5 false (.bin .eql 6 (.k (.int .u8 9))),p 8 (.pick 5 (.k (.bool true)) 7),p 9 (.mov 8),pg 10 9 false (.mov 0),pg 11 9 false (.bin .eql 10 (.k (.int .u8 10))),p 12 (.pick 9
 (.k (.bool true)) 11),p 13 (.mov 12),pg 14 13 false (.mov 0),pg 15 13 false (.bin .eql 14 (.k (.int .u8 12))),p 16 (.pick 13 (.k (.bool true)) 15),p 17 (.mov 16),pg 18 17 false
 (.mov 0),pg 19 17 false (.bin .eql 18 (.k (.int .u8 13))),p 20 (.pick 17 (.k (.bool true)) 19),p 21 (.mov 20),pg 22 21 false (.mov 0),pg 23 21 false (.bin .eql 22 (.k (.int .u8
 32))),p 24 (.pick 21 (.k (.bool true)) 23),p 2 (.mov 24)]) .ret))⟩
structure H_strings_Join (T:Tab):Prop where
 en:T.en 179=some E_strings_Join
structure H_chaseref04_Same (T:Tab):Prop where
 e:T.en 164=none
 f:T.fn 164=some chaseref04_Same
structure H_chaselaw04_text (T:Tab):Prop where
 e:T.en 171=none
 f:T.fn 171=some chaselaw04_text
structure H_chaselaw04_name (T:Tab):Prop where
 e:T.en 172=none
 f:T.fn 172=some chaselaw04_name
structure H_chaselaw04_number (T:Tab):Prop where
 e:T.en 173=none
 f:T.fn 173=some chaselaw04_number
structure H_scan_run_string (T:Tab):Prop where
 e:T.en 182=none
 f:T.fn 182=some scan_run_string
structure H_scan_blank (T:Tab):Prop where
 e:T.en 183=none
 f:T.fn 183=some scan_blank
 strings_IndexByte:H_strings_IndexByte T
structure H_scan_reader_skip_1 (T:Tab):Prop where
 e:T.en 184=none
 f:T.fn 184=some scan_reader_skip_1
structure H_scan_reader_stray (T:Tab):Prop where
 e:T.en 194=none
 f:T.fn 194=some scan_reader_stray
structure H_scan_reader_brace (T:Tab):Prop where
 e:T.en 195=none
 f:T.fn 195=some scan_reader_brace
structure H_scan_reader_follows (T:Tab):Prop where
 e:T.en 210=none
 f:T.fn 210=some scan_reader_follows
structure H_scan_number (T:Tab):Prop where
 e:T.en 213=none
 f:T.fn 213=some scan_number
structure H_ascii_read_ascii_half_1 (T:Tab):Prop where
 e:T.en 218=none
 f:T.fn 218=some ascii_read_ascii_half_1
structure H_ascii_bounded (T:Tab):Prop where
 e:T.en 220=none
 f:T.fn 220=some ascii_bounded
structure H_ascii_nibble (T:Tab):Prop where
 e:T.en 221=none
 f:T.fn 221=some ascii_nibble
 strings_IndexByte:H_strings_IndexByte T
structure H_ascii_read_ascii_tens_1 (T:Tab):Prop where
 e:T.en 222=none
 f:T.fn 222=some ascii_read_ascii_tens_1
structure H_ascii_fold (T:Tab):Prop where
 e:T.en 224=none
 f:T.fn 224=some ascii_fold
structure H_ascii_blank (T:Tab):Prop where
 e:T.en 226=none
 f:T.fn 226=some ascii_blank
structure H_strings_Builder_WriteString (T:Tab):Prop where
 e:T.en 169=none
 f:T.fn 169=some strings_Builder_WriteString
 strings_Builder_copyCheck:H_strings_Builder_copyCheck T
structure H_scan_reader_skip (T:Tab):Prop where
 e:T.en 174=none
 f:T.fn 174=some scan_reader_skip
 scan_run_string:H_scan_run_string T
 scan_blank:H_scan_blank T
 scan_reader_skip_1:H_scan_reader_skip_1 T
structure H_scan_form (T:Tab):Prop where
 e:T.en 180=none
 f:T.fn 180=some scan_form
 strings_Builder_WriteByte:H_strings_Builder_WriteByte T
 strings_Builder_WriteString:H_strings_Builder_WriteString T
 strings_Builder_String:H_strings_Builder_String T
structure H_scan_reader_fixed (T:Tab):Prop where
 e:T.en 200=none
 f:T.fn 200=some scan_reader_fixed
 scan_reader_stray:H_scan_reader_stray T
 scan_number:H_scan_number T
structure H_ascii_half_take (T:Tab):Prop where
 e:T.en 215=none
 f:T.fn 215=some ascii_half_take
 ascii_nibble:H_ascii_nibble T
structure H_ascii_tens_close (T:Tab):Prop where
 e:T.en 223=none
 f:T.fn 223=some ascii_tens_close
 ascii_fold:H_ascii_fold T
structure H_ascii_solid_1 (T:Tab):Prop where
 e:T.en 225=none
 f:T.fn 225=some ascii_solid_1
 ascii_blank:H_ascii_blank T
structure H_ascii_tens_take (T:Tab):Prop where
 e:T.en 217=none
 f:T.fn 217=some ascii_tens_take
 ascii_tens_close:H_ascii_tens_close T
 ascii_fold:H_ascii_fold T
structure H_ascii_solid (T:Tab):Prop where
 e:T.en 219=none
 f:T.fn 219=some ascii_solid
 ascii_solid_1:H_ascii_solid_1 T
structure H_ascii_read_ascii_half (T:Tab):Prop where
 e:T.en 214=none
 f:T.fn 214=some ascii_read_ascii_half
 ascii_read_ascii_half_1:H_ascii_read_ascii_half_1 T
 ascii_solid:H_ascii_solid T
 ascii_bounded:H_ascii_bounded T
structure H_ascii_read_ascii_tens (T:Tab):Prop where
 e:T.en 216=none
 f:T.fn 216=some ascii_read_ascii_tens
 ascii_read_ascii_tens_1:H_ascii_read_ascii_tens_1 T
 ascii_solid:H_ascii_solid T
 ascii_bounded:H_ascii_bounded T
structure H_ascii_Unhex (T:Tab):Prop where
 e:T.en 211=none
 f:T.fn 211=some ascii_Unhex
 ascii_read_ascii_half:H_ascii_read_ascii_half T
 ascii_half_take:H_ascii_half_take T
structure H_ascii_Unbase85 (T:Tab):Prop where
 e:T.en 212=none
 f:T.fn 212=some ascii_Unbase85
 ascii_read_ascii_tens:H_ascii_read_ascii_tens T
 ascii_tens_take:H_ascii_tens_take T
structure H_scan_text (T:Tab):Prop where
 e:T.en 209=none
 f:T.fn 209=some scan_text
 lex_Check:H_lex_Check T
structure H_scan_reader_quoted (T:Tab):Prop where
 e:T.en 193=none
 f:T.fn 193=some scan_reader_quoted
 lex_Unquote:H_lex_Unquote T
 scan_text:H_scan_text T
structure H_scan_reader_bracket (T:Tab):Prop where
 e:T.en 196=none
 f:T.fn 196=some scan_reader_bracket
 scan_text:H_scan_text T
structure H_scan_reader_less (T:Tab):Prop where
 e:T.en 197=none
 f:T.fn 197=some scan_reader_less
 scan_reader_follows:H_scan_reader_follows T
 scan_text:H_scan_text T
 ascii_Unhex:H_ascii_Unhex T
 ascii_Unbase85:H_ascii_Unbase85 T
structure H_scan_reader_greater (T:Tab):Prop where
 e:T.en 198=none
 f:T.fn 198=some scan_reader_greater
 scan_reader_follows:H_scan_reader_follows T
 scan_text:H_scan_text T
structure H_scan_reader_slash (T:Tab):Prop where
 e:T.en 199=none
 f:T.fn 199=some scan_reader_slash
 scan_reader_follows:H_scan_reader_follows T
 scan_run_string:H_scan_run_string T
 lex_Regular:H_lex_Regular T
 scan_text:H_scan_text T
structure H_scan_reader_counted (T:Tab):Prop where
 e:T.en 201=none
 f:T.fn 201=some scan_reader_counted
 scan_reader_stray:H_scan_reader_stray T
 scan_text:H_scan_text T
structure H_scan_Print (T:Tab):Prop where
 e:T.en 165=none
 f:T.fn 165=some scan_Print
 lex_Text:H_lex_Text T
 strings_Join:H_strings_Join T
structure H_scan_Pack (T:Tab):Prop where
 e:T.en 166=none
 f:T.fn 166=some scan_Pack
 lex_Check:H_lex_Check T
 scan_form:H_scan_form T
 lex_Text:H_lex_Text T
structure H_scan_readers (T:Tab):Prop where
 e:T.en 185=none
 f:T.fn 185=some scan_readers
 scan_reader_quoted:H_scan_reader_quoted T
 scan_reader_stray:H_scan_reader_stray T
 scan_reader_brace:H_scan_reader_brace T
 scan_reader_bracket:H_scan_reader_bracket T
 scan_reader_less:H_scan_reader_less T
 scan_reader_greater:H_scan_reader_greater T
 scan_reader_slash:H_scan_reader_slash T
structure H_scan_reader_binary (T:Tab):Prop where
 e:T.en 186=none
 f:T.fn 186=some scan_reader_binary
 scan_reader_fixed:H_scan_reader_fixed T
 scan_reader_counted:H_scan_reader_counted T
 scan_reader_stray:H_scan_reader_stray T
structure H_scan_reader_token (T:Tab):Prop where
 e:T.en 175=none
 f:T.fn 175=some scan_reader_token
 scan_readers:H_scan_readers T
 scan_reader_binary:H_scan_reader_binary T
 scan_run_string:H_scan_run_string T
 lex_Regular:H_lex_Regular T
 lex_Word:H_lex_Word T
structure H_scan_Next (T:Tab):Prop where
 e:T.en 158=none
 f:T.fn 158=some scan_Next
 scan_reader_skip:H_scan_reader_skip T
 scan_reader_token:H_scan_reader_token T
structure H_scan_tokens_1 (T:Tab):Prop where
 e:T.en 192=none
 f:T.fn 192=some scan_tokens_1
 scan_Next:H_scan_Next T
structure H_scan_tokens (T:Tab):Prop where
 e:T.en 178=none
 f:T.fn 178=some scan_tokens
 scan_tokens_1:H_scan_tokens_1 T
structure H_scan_All (T:Tab):Prop where
 e:T.en 162=none
 f:T.fn 162=some scan_All
 scan_tokens:H_scan_tokens T
structure H_chaselaw04_reads (T:Tab):Prop where
 e:T.en 168=none
 f:T.fn 168=some chaselaw04_reads
 scan_All:H_scan_All T
 chaseref04_Same:H_chaseref04_Same T
structure H_chaselaw04_fails (T:Tab):Prop where
 e:T.en 170=none
 f:T.fn 170=some chaselaw04_fails
 scan_All:H_scan_All T
structure H_chaselaw04_works (T:Tab):Prop where
 e:T.en 157=none
 f:T.fn 157=some chaselaw04_works
 chaselaw04_number:H_chaselaw04_number T
 chaselaw04_reads:H_chaselaw04_reads T
 chaselaw04_name:H_chaselaw04_name T
 chaselaw04_text:H_chaselaw04_text T
 scan_Next:H_scan_Next T
 scan_Print:H_scan_Print T
 scan_Pack:H_scan_Pack T
 chaselaw04_fails:H_chaselaw04_fails T
structure H_chaselaw04_ScanKnown (T:Tab):Prop where
 e:T.en 156=none
 f:T.fn 156=some chaselaw04_ScanKnown
 chaselaw04_works:H_chaselaw04_works T
 strings_Repeat:H_strings_Repeat T
 chaselaw04_fails:H_chaselaw04_fails T
 chaselaw04_reads:H_chaselaw04_reads T
 chaselaw04_text:H_chaselaw04_text T
 chaselaw04_name:H_chaselaw04_name T
 chaselaw04_number:H_chaselaw04_number T
 scan_Next:H_scan_Next T
 scan_Pack:H_scan_Pack T
 scan_Print:H_scan_Print T
end Go.Ev.B

/- The plain law of LexBack: quoted strings, names and ints are read back. -/
namespace Go.Ev
open Go
end Go.Ev

/- The plain law of bases: digits in any base are read back. -/
namespace Go.Ev
open Go
end Go.Ev

/- The plain law of LexBack: the decimal texts of ints and reals are read back. -/
namespace Go.Ev
open Go
end Go.Ev

/- The plain law of LexBack: what a valid token's text is; texts are distinct. -/
namespace Go.Ev
open Go
end Go.Ev

/- LexBack: the law told. -/
namespace Go.Ev
open Go
variable {T : Tab} {st : St}
end Go.Ev

/- What the functions of ascii tell: octets. -/
namespace Go.Ev
open Go
variable {T : Tab} {st : St}
def blankC (c:UInt8):Bool:=decide (c=0) || (decide (c=9) || (decide (c=10) || (decide (c=12) || (decide (c=13) || decide (c=32)))))
def nibV (c:UInt8):Int:=if 48≤c.toNat∧c.toNat≤57 then(c.toNat:Int) - 48 else if 65≤c.toNat∧c.toNat≤70 then(c.toNat:Int) - 55 else if 97≤c.toNat∧c.toNat≤102 then(c.toNat:Int) - 87 else -1
theorem nibV_le (c:UInt8): -1≤nibV c∧nibV c≤15:=by unfold nibV;(repeat' split) <;> omega
theorem asciiBlank_tells (H:B.H_ascii_blank T) (hwf:st.Wf) (c:UInt8):Tells T st (.fn 226 [] []) [.int .u8 c.toNat] (.bool (blankC c)):=by
 have h:(List.range 256).all (fun c=>saysP T0 60 B.ascii_blank [.int .u8 c] (.bool (blankC (UInt8.ofNat c))))=true:=by kernel_rfl
 have:=all_octets h c
 simp only[UInt8.ofNat_toNat]at this
 exact tells_pure pureIn0 H.e H.f hwf rfl this
theorem nib_facts (c:UInt8):(¬(97≤c.toNat∧c.toNat≤102)→Lib.indexByte [48,49,50,51,52,53,54,55,56,57,65,66,67,68,69,70] c=nibV c)∧
  (97≤c.toNat∧c.toNat≤102→IntKind.u8.wrap ((c.toNat:Int) - 32)=((UInt8.ofNat (c.toNat - 32)).toNat:Int)∧Lib.indexByte [48,49,50,51,52,53,54,55,56,57,65,66,67,68,69,70] (UInt8.ofNat (c.toNat - 32))=nibV c):=by
 have h:(List.range 256).all (fun n=>let c:=UInt8.ofNat n;decide (¬(97≤c.toNat∧c.toNat≤102)→Lib.indexByte [48,49,50,51,52,53,54,55,56,57,65,66,67,68,69,70] c=nibV c) &&
  decide (97≤c.toNat∧c.toNat≤102→IntKind.u8.wrap ((c.toNat:Int) - 32)=((UInt8.ofNat (c.toNat - 32)).toNat:Int)∧Lib.indexByte [48,49,50,51,52,53,54,55,56,57,65,66,67,68,69,70] (UInt8.ofNat (c.toNat - 32))=nibV c))=true:=by kernel_rfl
 have:=all_octets h c
 simp only[UInt8.ofNat_toNat,Bool.and_eq_true,decide_eq_true_eq]at this
 exact this
theorem nibble_tells (H:B.H_ascii_nibble T) (hwf:st.Wf) (c:UInt8):Tells T st (.fn 221 [] []) [.int .u8 c.toNat] (.int .i64 (nibV c)):=by
 refine tells_of H.e H.f rfl ?_
 obtain⟨f1,f2⟩:=nib_facts c
 have hi:=fun(d:UInt8)=>indexByte_call (st:=st) H.strings_IndexByte (s:=[48,49,50,51,52,53,54,55,56,57,65,66,67,68,69,70]) (c:=(d.toNat:Int))
 have hu:∀d:UInt8,(d.toNat:Int).toNat.toUInt8=d:=fun d=>by simp
 by_cases h:97≤c.toNat∧c.toNat≤102
 ·obtain⟨w1,w2⟩:=f2 h
  have hi2:=hi (UInt8.ofNat (c.toNat - 32))
  rw[hu,w2]at hi2
  generalize UInt8.ofNat (c.toNat - 32)=d at*
  have h1:(97:Int)≤c.toNat:=by omega
  have h2:(c.toNat:Int)≤102:=by omega
  simp[B.ascii_nibble,go_sem,h1,h2,h.1,h.2,w1,hi2,Ext.refl hwf]
 ·have hi2:=hi c
  rw[hu,f1 h]at hi2
  by_cases h1:97≤c.toNat
  ·have h1':(97:Int)≤c.toNat:=by omega
   have h2:¬(c.toNat:Int)≤102:=by omega
   have h2':¬c.toNat≤102:=by omega
   simp[B.ascii_nibble,go_sem,h1,h1',h2,h2',hi2,Ext.refl hwf]
  ·have h1':¬(97:Int)≤c.toNat:=by omega
   simp[B.ascii_nibble,go_sem,h1,h1',hi2,Ext.refl hwf]
end Go.Ev

/- What is skipped: white space and comments; the regular characters ahead. -/
namespace Go.Ev
open Go
variable {T : Tab} {st : St}
def runN (p:UInt8→Bool):List UInt8→Nat
 | []=>0
 | c::r=>if p c=true then runN p r+1 else 0
theorem runN_le (p:UInt8→Bool):∀s,runN p s≤s.length
 | []=>Nat.le_refl _
 | c::r=>by
   have:=runN_le p r
   simp only[runN,List.length_cons]
   split <;> omega
def skp:Bool→List UInt8→Nat
 | _,[]=>0
 | true,c::r=>if c=10∨c=13 then skp false r+1 else skp true r+1
 | false,c::r=>if blankC c=true then skp false r+1 else if c=37 then skp true r+1 else 0
theorem skp_le:∀(b:Bool) (s:List UInt8),skp b s≤s.length
 | b,[]=>by cases b <;> simp[skp]
 | true,c::r=>by
   have h1:=skp_le true r
   have h2:=skp_le false r
   simp only[skp,List.length_cons]
   split <;> omega
 | false,c::r=>by
   have h1:=skp_le true r
   have h2:=skp_le false r
   simp only[skp,List.length_cons]
   split
   ·omega
   ·split <;> omega
theorem run_loop_tells (H:B.H_scan_run_string T) {s:List UInt8} {f:AV} {p:UInt8→Bool} (hp:∀s',s'.Wf→∀c:UInt8,Tells T s' f [.int .u8 c.toNat] (.bool (p c))) (hs:s.length<1000000000000):∀(m i:Nat) (e:Env) (st1:St),i+m=s.length→Ext st st1→eget e 0= .str s→eget e 1=f→eget e 5= .int .i64 i→
  Res (run T (.loop B.scan_run_string_l0) e st1) fun x e' s'=>Ext st s'∧x= .exit 0∧eget e' 5= .int .i64 ((i+runN p (s.drop i):Nat):Int):=by
 intro m
 induction m with
 | zero=>
   intro i e st1 hi hx g0 g1 g5
   have hil:i=s.length:=by omega
   subst hil
   rw[run_loop]
   simp[B.scan_run_string_l0,go_sem,g0,g1,g5,hx,runN]
 | succ m ih=>
   intro i e st1 hi hx g0 g1 g5
   have hil:i<s.length:=by omega
   have hil':(i:Int)<s.length:=by omega
   obtain⟨c,hc,hd⟩:=idx_some hil
   have ek:IntKind.i64.wrap ((i:Int)+1)=((i+1:Nat):Int):=wrap64' (by omega) (by omega)
   have ih2:=fun e' s'=>ih (i+1) e' s' (by omega)
   obtain⟨R,hR⟩:∃R,R=runN p (s.drop i):=⟨_,rfl⟩
   rw[←hR]
   rw[hd,runN]at hR
   rw[run_loop]
   simp[B.scan_run_string_l0,go_sem,g0,g1,g5,hil',hc]
   refine(hp _ hx.wf c).use fun s1 hs1=> ?_
   have hx1:=hx.trans hs1
   cases hr:p c with
   | false=>simp[go_sem,hr]at hR⊢;simp[go_sem,hx1,hR,g5]
   | true=>
     rw[if_pos hr]at hR
     simp[go_sem,hr]
     refine(ih2 _ s1 hx1 (by simp[go_sem,g0]) (by simp[go_sem,g1]) (by simp[go_sem,g5,ek])).mono ?_
     rintro x e' s' ⟨h1,h2,h3⟩
     exact⟨h1,h2,by rw[h3,hR];congr 1;omega⟩
theorem run_tells (H:B.H_scan_run_string T) (hwf:st.Wf) {s:List UInt8} {f:AV} {p:UInt8→Bool} (hp:∀s',s'.Wf→∀c:UInt8,Tells T s' f [.int .u8 c.toNat] (.bool (p c))) (hs:s.length<1000000000000):Tells T st (.fn 182 [] []) [.str s,f] (.int .i64 (runN p s:Nat)):=by
 refine tells_of H.e H.f rfl ?_
 simp[B.scan_run_string,go_sem]
 refine(run_loop_tells H hp hs s.length 0 _ st (by simp) (.refl hwf) (by simp[go_sem]) (by simp[go_sem]) (by simp[go_sem])).mono ?_
 rintro x e' s' ⟨h1,rfl,h3⟩
 simp only[List.drop_zero,Nat.zero_add]at h3
 simp[go_sem,h3,h1]
end Go.Ev

/- The reader skips white space and comments. -/
namespace Go.Ev
open Go
variable {T : Tab} {st : St}
def neC (c:UInt8):Bool:=decide (c≠10) && decide (c≠13)
theorem skp_true:∀r:List UInt8,skp true r=runN neC r+skp false (r.drop (runN neC r))
 | []=>rfl
 | c::r=>by
   have ih:=skp_true r
   by_cases h:c=10∨c=13
   ·have h1:neC c=false:=by rcases h with rfl | rfl <;> rfl
    have h2:blankC c=true:=by rcases h with rfl | rfl <;> rfl
    rw[skp,if_pos h,runN,if_neg (by simp[h1]),List.drop_zero,Nat.zero_add,skp,if_pos h2]
   ·have h1:neC c=true:=by simp[neC];exact⟨fun e=>h (.inl e),fun e=>h (.inr e)⟩
    rw[skp,if_neg h,runN,if_pos h1,List.drop_succ_cons,ih];omega
theorem skp_blank:∀s:List UInt8,skp false s=runN blankC s+skp false (s.drop (runN blankC s))
 | []=>rfl
 | c::r=>by
   have ih:=skp_blank r
   by_cases h:blankC c=true
   ·rw[skp,if_pos h,runN,if_pos h,List.drop_succ_cons,ih];omega
   ·rw[runN,if_neg h,List.drop_zero,Nat.zero_add]
theorem skp_pct {t r:List UInt8} (h:t=37::r):skp false t=runN neC t+skp false (t.drop (runN neC t)):=by
 subst h
 have:=skp_true r
 rw[skp,if_neg (by decide),if_pos rfl,runN,if_pos (by rfl),List.drop_succ_cons]
 omega
theorem runN_head (p:UInt8→Bool):∀(s:List UInt8) c r,s.drop (runN p s)=c::r→p c=false
 | [],c,r,h=>by simp[runN]at h
 | d::t,c,r,h=>by
   by_cases hd:p d=true
   ·rw[runN,if_pos hd,List.drop_succ_cons]at h
    exact runN_head p t c r h
   ·rw[runN,if_neg hd,List.drop_zero]at h
    injection h with h1 h2
    subst h1
    simpa using hd
theorem scanBlank_tells (H:B.H_scan_blank T) (hwf:st.Wf) (c:UInt8):Tells T st (.fn 183 [] []) [.int .u8 c.toNat] (.bool (blankC c)):=by
 refine tells_of H.e H.f rfl ?_
 have hi:=fun st=>indexByte_call (st:=st) H.strings_IndexByte (s:=[0,9,10,12,13,32]) (c:=c.toNat)
 have h:(List.range 256).all (fun n=>let c:=UInt8.ofNat n;decide (0≤Lib.indexByte [0,9,10,12,13,32] c) == blankC c)=true:=by kernel_rfl
 have:=all_octets h c
 simp only[UInt8.ofNat_toNat,beq_iff_eq]at this
 simp[B.scan_blank,go_sem,hi,Ext.refl hwf]
 simpa using this
theorem skip1_tells (H:B.H_scan_reader_skip_1 T) (hwf:st.Wf) (c:UInt8):Tells T st (.fn 184 [] []) [.int .u8 c.toNat] (.bool (neC c)):=by
 have h:(List.range 256).all (fun c=>saysP T0 60 B.scan_reader_skip_1 [.int .u8 c] (.bool (neC (UInt8.ofNat c))))=true:=by kernel_rfl
 have:=all_octets h c
 simp only[UInt8.ofNat_toNat]at this
 exact tells_pure pureIn0 H.e H.f hwf rfl this
abbrev rdrO (l:Bool) (s:List UInt8) (at_:Nat):AObj:= .cells 278 l [.str s,.int .i64 (at_:Int)]
theorem rdr0 {h:Heap} {p i:Nat} {s:List UInt8} {l:Bool} (g:hget h p=some (rdrO l s i)):rdCell h p 0=some (.str s):=by simp[rdCell,g]
theorem rdr1 {h:Heap} {p i:Nat} {s:List UInt8} {l:Bool} (g:hget h p=some (rdrO l s i)):rdCell h p 1=some (.int .i64 (i:Int)):=by simp[rdCell,g]
theorem rdrW {h:Heap} {p i:Nat} {s:List UInt8} {l:Bool} {j:Nat} (g:hget h p=some (rdrO l s i)):wrCells h p 1 [.int .i64 (j:Int)]=some (hset h p (rdrO l s j)):=wr_cells g rfl (by simp)
theorem skip_loop (H:B.H_scan_reader_skip T) {s:List UInt8} {l:Bool} {p:Nat} (hs:s.length<1000000000000):∀(m i:Nat) (e:Env) (st1:St),s.length - i<m→i≤s.length→Frm [p] st st1→hget st1.h p=some (rdrO l s i)→eget e 0= .ptr p 0→
  Res (run T (.loop B.scan_reader_skip_l0) e st1) fun x e' s'=>Frm [p] st s'∧x= .ret∧hget s'.h p=some (rdrO l s (i+skp false (s.drop i))):=by
 intro m
 induction m with
 | zero=>intro i e st1 h;omega
 | succ m ih=>
   intro i e st1 hm hi hx g g0
   have hb:=skp_blank (s.drop i)
   have hle:=runN_le blankC (s.drop i)
   rw[List.length_drop]at hle
   have hhd:=runN_head blankC (s.drop i)
   obtain⟨R,hR⟩:∃R,R=skp false (s.drop i):=⟨_,rfl⟩
   rw[←hR]at hb⊢
   rw[List.drop_drop]at hb hhd
   have hrun:=fun st1 hw=>run_tells (st:=st1) H.scan_run_string hw (s:=s.drop i) (f:= .fn 183 [] []) (p:=blankC) (fun s' hw c=>scanBlank_tells H.scan_blank hw c) (by simp;omega)
   generalize runN blankC (s.drop i)=k at*
   clear hR
   have ek:IntKind.i64.wrap ((i:Int)+(k:Int))=((i+k:Nat):Int):=wrap64' (by omega) (by omega)
   have r0:=rdr0 g
   have r1:=rdr1 g
   have hsub:asubS s (some (.int .i64 (i:Int))) none=some (.str (s.drop i)):=by rw[asubS_from (by omega) (by omega)];simp
   rw[run_loop]
   simp[B.scan_reader_skip_l0,go_sem,g0,RO.run,r0,r1,hsub]
   refine(hrun _ (Ext.aside hx.wf 23).wf).use fun s1 x1=> ?_
   have x1':=(Ext.aside hx.wf 23).trans x1
   have g1:=x1'.get hx.wf g
   have w1:=rdrW (j:=i+k) g1
   simp[go_sem,g0,RO.run,WO.run,reI,rdr1 g1,ek]
   refine⟨rfl,?_⟩
   simp only[Int.natCast_add]at w1
   have g2:=hget_hset_self (o:=rdrO l s (i+k)) g1
   have f2:Frm [p] st ⟨hset s1.h p (rdrO l s (i+k)),s1.nx⟩:=(hx.trans (x1'.fr []) (by simp)).trans (Frm.set x1.wf g1) (by simp)
   have q0:=rdr0 g2
   have q1:=rdr1 g2
   rw[Int.natCast_add]at q1
   simp[go_sem,g0,RO.run,WO.run,rdr1 g1,ek,w1]
   by_cases hend:i+k=s.length
   ·have hd0:s.drop (i+k)=[]:=List.drop_eq_nil_of_le (by omega)
    rw[hd0]at hb
    simp[skp]at hb
    subst hb
    have he:(i:Int)+(R:Int)=s.length:=by omega
    simp[go_sem,g0,RO.run,WO.run,q0,q1,he]
    exact⟨f2.trans ((Ext.aside f2.wf 26).fr []) (by simp),g2⟩
   ·obtain⟨c,hc,hd⟩:=idx_some (s:=s) (i:=i+k) (by omega)
    have he:¬(i:Int)+(k:Int)=s.length:=by omega
    have hik:(0:Int)≤(i:Int)+(k:Int):=by omega
    have htn:((i:Int)+(k:Int)).toNat=i+k:=by omega
    have hbk:=hhd c _ hd
    by_cases hc37:c=37
    ·subst hc37
     have hsk:skp false (s.drop (i+k))=runN neC (s.drop (i+k))+skp false (s.drop (i+k+runN neC (s.drop (i+k)))):=by
      have:=skp_pct hd;rwa[List.drop_drop]at this
     have hle2:=runN_le neC (s.drop (i+k))
     rw[List.length_drop]at hle2
     have hpos:1≤runN neC (s.drop (i+k)):=by rw[hd,runN,if_pos (by rfl)];omega
     have hrun2:=fun st1 hw=>run_tells (st:=st1) H.scan_run_string hw (s:=s.drop (i+k)) (f:= .fn 184 [] []) (p:=neC) (fun s' hw c=>skip1_tells H.scan_reader_skip_1 hw c) (by simp;omega)
     rw[hsk]at hb
     clear hsk
     generalize runN neC (s.drop (i+k))=k2 at*
     have ek2:IntKind.i64.wrap ((i:Int)+(k:Int)+(k2:Int))=((i+k+k2:Nat):Int):=by rw[wrap64' (by omega) (by omega)];omega
     have hsub2:asubS s (some (.int .i64 ((i:Int)+(k:Int)))) none=some (.str (s.drop (i+k))):=by rw[asubS_from (by omega) (by omega),htn]
     simp[go_sem,g0,RO.run,WO.run,q0,q1,he,hc,hik,htn,hsub2]
     have f2a:=f2.trans ((Ext.aside f2.wf 49).fr []) (by simp)
     refine(hrun2 _ f2a.wf).use fun s3 x3=> ?_
     have f3:=f2a.trans (x3.fr []) (by simp)
     have g3:=x3.get f2a.wf g2
     have w3:=rdrW (j:=i+k+k2) g3
     have p1:=rdr1 g3
     rw[Int.natCast_add]at p1
     simp[go_sem,g0,RO.run,WO.run,reI,p1,ek2]
     refine⟨rfl,?_⟩
     simp only[Int.natCast_add]at w3 ek2
     simp[go_sem,g0,RO.run,WO.run,p1,ek2,w3]
     have f4:=f3.trans (Frm.set f3.wf g3 (o:=rdrO l s (i+k+k2))) (by simp)
     have g4:=hget_hset_self (o:=rdrO l s (i+k+k2)) g3
     have hRR:R=k+(k2+skp false (s.drop (i+k+k2))):=hb
     rw[show i+R=i+k+k2+skp false (s.drop (i+k+k2))by omega]
     exact ih (i+k+k2) _ _ (by omega) (by omega) f4 g4 (by simp[go_sem])
    ·have h37:¬(c.toNat:Int)=37:=by rw[←UInt8.toNat_inj]at hc37;simp at hc37;omega
     have hz:skp false (s.drop (i+k))=0:=by rw[hd,skp,if_neg (by simp[hbk]),if_neg hc37]
     rw[hz]at hb
     simp at hb
     subst hb
     simp[go_sem,g0,RO.run,WO.run,q0,q1,he,hc,hik,htn,h37]
     exact⟨f2.trans ((Ext.aside f2.wf 26).fr []) (by simp),g2⟩
theorem skip_res (H:B.H_scan_reader_skip T) {s:List UInt8} {l:Bool} {p i:Nat} (hs:s.length<1000000000000) (hi:i≤s.length) (hwf:st.Wf) (g:hget st.h p=some (rdrO l s i)):
  CRes (call T (.fn 174 [] []) [.ptr p 0] st) fun v s'=>v= .tuple []∧Frm [p] st s'∧hget s'.h p=some (rdrO l s (i+skp false (s.drop i))):=by
 refine call_res H.e H.f rfl ?_
 simp[B.scan_reader_skip,go_sem]
 refine(skip_loop H hs (s.length - i+1) i _ st (by omega) hi (.refl hwf _) g (by simp[go_sem])).mono ?_
 rintro x e' s' ⟨h1,rfl,h3⟩
 simp[go_sem]
 exact⟨h1.dropLoc,by rw[hget_dropLoc_lt (hwf.lt _ _ g)];exact h3⟩
end Go.Ev

/- Tokens with a text; numbers out of octets. -/
namespace Go.Ev
open Go
variable {T : Tab} {st : St}
abbrev T3:=(Int×Int×List UInt8)×Nat×Int
def tk3 (t:T3):AV:= .tuple [.agg [.int .i64 t.1.1,.int .i64 t.1.2.1,.str t.1.2.2],.int .i64 (t.2.1:Int),.int .i64 t.2.2]
def err3 (e:Int):T3:=((0,0,[]),0,e)
def textK (k:Int) (x:List UInt8) (n:Nat):T3:=
 if(k=6∧1000<x.length)∨(k≠6∧100<x.length)then err3 26 else if rightT k 0 x=true then((k,0,x),n,0)else err3 37
theorem zero_tok (h:Heap) (n:Nat):hget ((n,AObj.cells 134 true [.int .i64 0,.int .i64 0,.str []])::h) n=some (.cells 134 true [.int .i64 0,.int .i64 0,.str []]):=by simp[hget_cons]
theorem stray_tells (H:B.H_scan_reader_stray T) (hwf:st.Wf) {p:AV}:Tells T st (.fn 194 [] []) [p] (tk3 (err3 37)):=by
 refine tells_of H.e H.f rfl ?_
 have hx:=Ext.new hwf (.cells 134 true [.int .i64 0,.int .i64 0,.str []])
 have hg:=zero_tok st.h st.nx
 simp[B.scan_reader_stray,go_sem,NO.run,tok_wr hg,WO.run,fresults,resVals,resVal,RO.run,tok_rd (hget_hset_self hg),tk3,err3]
 exact hx.setNew (st:=st) hg (Nat.le_refl _)
theorem text_tells (H:B.H_scan_text T) (hwf:st.Wf) {k:Int} {x:List UInt8} {n:Nat} (hs:x.length<1000000000000):Tells T st (.fn 209 [] []) [.int .i64 k,.str x,.int .i64 (n:Int)] (tk3 (textK k x n)):=by
 refine tells_of H.e H.f rfl ?_
 have hx0:=Ext.new hwf (.cells 134 true [.int .i64 0,.int .i64 0,.str []])
 have hx:=hx0.trans (Ext.new hx0.wf (.cells 134 true [.int .i64 k,.int .i64 0,.str x]))
 have hg:hget ((st.nx+1,AObj.cells 134 true [.int .i64 k,.int .i64 0,.str x])::(st.nx,AObj.cells 134 true [.int .i64 0,.int .i64 0,.str []])::st.h) st.nx=some (.cells 134 true [.int .i64 0,.int .i64 0,.str []]):=by simp[hget_cons]
 have hg2:hget ((st.nx+1,AObj.cells 134 true [.int .i64 k,.int .i64 0,.str x])::(st.nx,AObj.cells 134 true [.int .i64 0,.int .i64 0,.str []])::st.h) (st.nx+1)=some (.cells 134 true [.int .i64 k,.int .i64 0,.str x]):=by simp[hget_cons]
 simp only[Nat.add_assoc,Nat.reduceAdd]at hx
 have bad:∀{s1:St},Ext st s1→hget s1.h st.nx=some (.cells 134 true [.int .i64 0,.int .i64 0,.str []])→∀k n t,Ext st ⟨hset s1.h st.nx (.cells 134 true [.int .i64 k,.int .i64 n,.str t]),s1.nx⟩:=fun e1 g1 k n t=>e1.setNew g1 (Nat.le_refl _)
 have fin:∀s1,Ext st s1→hget s1.h st.nx=some (.cells 134 true [.int .i64 0,.int .i64 0,.str []])→True:=fun _ _ _=>trivial
 obtain⟨b,hb⟩:∃b:Bool,b=(decide (k=6∧1000<x.length) || decide (k≠6∧100<x.length)):=⟨_,rfl⟩
 simp[B.scan_text,go_sem,NO.run,wr_tok,Nat.add_assoc]
 unfold textK
 by_cases hk:k=6
 ·subst hk
  by_cases hl:1000<x.length
  ·have hl':(1000:Int)<x.length:=by omega
   simp[go_sem,hl,hl',tok_wr hg,WO.run,fresults,resVals,resVal,RO.run,tok_rd (hget_hset_self hg),tk3,err3]
   exact bad (s1:=⟨_,_⟩) hx hg _ _ _
  ·have hl':¬(1000:Int)<x.length:=by omega
   simp[go_sem,hl,hl',RO.run,rd_tok]
   refine(check_tells H.lex_Check hx.wf (by omega)).use fun s1 x1=> ?_
   have y1:=hx.trans x1
   have g1:=x1.get hx.wf hg
   have g2:=x1.get hx.wf hg2
   cases hr:rightT 6 0 x with
   | false=>
     simp[go_sem,hr,tok_wr g1,WO.run,fresults,resVals,resVal,RO.run,tok_rd (hget_hset_self g1),tk3,err3]
     exact bad y1 g1 _ _ _
   | true=>
     simp[go_sem,hr,tok_rd g2,tok_wr g1,WO.run,fresults,resVals,resVal,RO.run,tok_rd (hget_hset_self g1),tk3,err3]
     exact bad y1 g1 _ _ _
 ·by_cases hl:100<x.length
  ·have hl':(100:Int)<x.length:=by omega
   simp[go_sem,hk,hl,hl',tok_wr hg,WO.run,fresults,resVals,resVal,RO.run,tok_rd (hget_hset_self hg),tk3,err3]
   exact bad (s1:=⟨_,_⟩) hx hg _ _ _
  ·have hl':¬(100:Int)<x.length:=by omega
   simp[go_sem,hk,hl,hl',RO.run,rd_tok]
   refine(check_tells H.lex_Check hx.wf (by omega)).use fun s1 x1=> ?_
   have y1:=hx.trans x1
   have g1:=x1.get hx.wf hg
   have g2:=x1.get hx.wf hg2
   cases hr:rightT k 0 x with
   | false=>
     simp[go_sem,hr,tok_wr g1,WO.run,fresults,resVals,resVal,RO.run,tok_rd (hget_hset_self g1),tk3,err3]
     exact bad y1 g1 _ _ _
   | true=>
     simp[go_sem,hr,tok_rd g2,tok_wr g1,WO.run,fresults,resVals,resVal,RO.run,tok_rd (hget_hset_self g1),tk3,err3]
     exact bad y1 g1 _ _ _
theorem follows_tells (H:B.H_scan_reader_follows T) (hwf:st.Wf) {p i:Nat} {s:List UInt8} {l:Bool} (g:hget st.h p=some (rdrO l s i)) (hs:s.length<1000000000000) (hi:i<s.length) {c:UInt8}:
  Tells T st (.fn 210 [] []) [.ptr p 0,.int .u8 (c.toNat:Int)] (.bool (s[i+1]? == some c)):=by
 refine tells_of H.e H.f rfl ?_
 have q0:=rdr0 g
 have q1:=rdr1 g
 obtain⟨I,hI⟩:∃I:Int,I=(i:Int):=⟨_,rfl⟩
 obtain⟨w,hw⟩:∃w:Int,w=(i:Int)+1:=⟨_,rfl⟩
 have ek:IntKind.i64.wrap (I+1)=w:=by rw[hI,wrap64' (by omega) (by omega),hw]
 rw[←hI]at q1
 by_cases h:i+1<s.length
 ·obtain⟨d,hd,_⟩:=idx_some h
  have h':w<s.length:=by omega
  have hn:(0:Int)≤w:=by omega
  have ht:w.toNat=i+1:=by omega
  have hcd:((d.toNat:Int)=(c.toNat:Int))↔d=c:=by rw[←UInt8.toNat_inj];omega
  rw[hd]
  clear h hs hi hI hw
  simp[B.scan_reader_follows,go_sem,RO.run,q1,ek]
  simp[go_sem,RO.run,q0,ek,h']
  simp[go_sem,RO.run,q1,ek,hd,hn,ht,hcd]
  refine⟨by by_cases e:d=c <;> simp[e],Ext.aside hwf 30⟩
 ·have hd:s[i+1]? =none:=List.getElem?_eq_none (by omega)
  have h':¬w<s.length:=by omega
  rw[hd]
  clear h hs hi hI hw
  simp[B.scan_reader_follows,go_sem,RO.run,q1,ek]
  simp[go_sem,RO.run,q0,ek,h']
  exact Ext.aside hwf 30
end Go.Ev

/- Numbers out of octets. -/
namespace Go.Ev
open Go
variable {T : Tab} {st : St}
def numF (n:Int):List UInt8→Int
 | []=>n
 | c::r=>numF (n*256+c.toNat) r
def numU (s:List UInt8):Int:=numF 0 s
def numS:List UInt8→Int
 | []=>0
 | c::r=>numF (if 128≤c.toNat then -1 else 0) (c::r)
theorem ior_step {n:Int} {c:Nat} (h0: -1099511627776≤n) (h1:n≤1099511627776) (hc:c<256):ior .i64 (n*256) (c:Int)=n*256+c:=by
 unfold ior
 obtain⟨q,hq⟩:∃q:Nat,(q:Int)=n % 72057594037927936:=⟨(n % 72057594037927936).toNat,by omega⟩
 have e1:(BitVec.ofInt IntKind.i64.bits (n*256)).toNat=2 ^ 8*q:=by
  rw[BitVec.toNat_ofInt]
  show ((n*256) % ((2 ^ 64:Nat):Int)).toNat=_
  have:(n*256) % ((2 ^ 64:Nat):Int)=256*(q:Int):=by rw[hq];omega
  rw[this];omega
 have e2:(BitVec.ofInt IntKind.i64.bits (c:Int)).toNat=c:=by
  rw[ofInt_ofNat]
  show (BitVec.ofNat 64 c).toNat=c
  rw[BitVec.toNat_ofNat,Nat.mod_eq_of_lt (by omega)]
 rw[BitVec.toNat_or,e1,e2,←Nat.two_pow_add_eq_or_of_lt (i:=8) (by omega)]
 simp[IntKind.wrap,IntKind.signed,IntKind.bits]
 omega
theorem ishl_8 {n:Int} (h0: -1099511627776≤n) (h1:n≤1099511627776):ishl .i64 n 8=n*256:=by
 unfold ishl
 have:(n*((2 ^ (min ((8:Int).toNat) IntKind.i64.bits):Nat):Int))=n*256:=by simp[IntKind.bits]
 rw[this,wrap64' (by omega) (by omega)]
theorem numF_bnd:∀(s:List UInt8) (n:Int), -1≤n→n≤0→s.length≤4→-1099511627776≤numF n s∧numF n s≤1099511627776
 | [],n,h0,h1,h=>by simp[numF];omega
 | [a],n,h0,h1,h=>by have:=a.toNat_lt;simp[numF];omega
 | [a,b],n,h0,h1,h=>by have:=a.toNat_lt;have:=b.toNat_lt;simp[numF];omega
 | [a,b,c],n,h0,h1,h=>by have:=a.toNat_lt;have:=b.toNat_lt;have:=c.toNat_lt;simp[numF];omega
 | [a,b,c,d],n,h0,h1,h=>by have:=a.toNat_lt;have:=b.toNat_lt;have:=c.toNat_lt;have:=d.toNat_lt;simp[numF];omega
 | _::_::_::_::_::_,n,h0,h1,h=>by simp at h
theorem numU_pos:∀(s:List UInt8) (n:Int),0≤n→0≤numF n s
 | [],n,h=>h
 | c::r,n,h=>numU_pos r _ (by omega)
theorem numF_pre {s:List UInt8} {n0:Int} (h0: -1≤n0) (h1:n0≤0) (hs:s.length≤4) (i:Nat): -1099511627776≤numF n0 (s.take i)∧numF n0 (s.take i)≤1099511627776:=numF_bnd _ _ h0 h1 (by simp;omega)
theorem numF_snoc:∀(s:List UInt8) (n:Int) (c:UInt8),numF n (s++[c])=numF n s*256+c.toNat
 | [],n,c=>rfl
 | a::r,n,c=>numF_snoc r _ c
theorem take_snoc {s:List UInt8} {i:Nat} {c:UInt8} (h:s[i]? =some c):s.take (i+1)=s.take i++[c]:=by
 rw[List.take_add_one,h];rfl
theorem number_loop {s:List UInt8} (hs:s.length≤4) {n0:Int} (h0: -1≤n0) (h1:n0≤0):∀(m i:Nat) (e:Env),i+m=s.length→eget e 0= .str s→eget e 3= .int .i64 (numF n0 (s.take i))→eget e 9= .int .i64 s.length→eget e 10= .int .i64 i→
  Res (run T (.loop B.scan_number_l0) e st) fun x e' s'=>x= .exit 0∧s'=st∧eget e' 3= .int .i64 (numF n0 s):=by
 intro m
 induction m with
 | zero=>
   intro i e hi g0 g3 g9 g10
   have hil:i=s.length:=by omega
   subst hil
   rw[List.take_length]at g3
   rw[run_loop]
   simp[B.scan_number_l0,go_sem,g0,g3,g9,g10]
 | succ m ih=>
   intro i e hi g0 g3 g9 g10
   have hil:i<s.length:=by omega
   have hil':(i:Int)<s.length:=by omega
   obtain⟨c,hc,hd⟩:=idx_some hil
   obtain⟨b0,b1⟩:=numF_pre h0 h1 hs i
   have hsn:=numF_snoc (s.take i) n0 c
   rw[←take_snoc hc]at hsn
   have ih2:=fun e'=>ih (i+1) e' (by omega)
   rw[hsn]at ih2
   generalize numF n0 (s.take i)=N at*
   have s1:=ishl_8 b0 b1
   have s2:=ior_step b0 b1 c.toNat_lt
   have ek:IntKind.i64.wrap ((i:Int)+1)=((i+1:Nat):Int):=wrap64' (by omega) (by omega)
   have wc:IntKind.i64.wrap (c.toNat:Int)=c.toNat:=wrap64' (by have:=c.toNat_lt;omega) (by have:=c.toNat_lt;omega)
   clear ih hil hi hd
   rw[run_loop]
   simp[B.scan_number_l0,go_sem,g0,g3,g9,g10,hil',hc,wc,s1,s2]
   exact ih2 _ (by simp[go_sem,g0]) (by simp[go_sem,s2]) (by simp[go_sem,g9]) (by simp[go_sem,ek])
theorem number_tellsB (H:B.H_scan_number T) (hwf:st.Wf) {s:List UInt8} (hs:s.length≤4) (h0:s≠[]):Tells T st (.fn 213 [] []) [.str s] (.int .i64 (numS s)):=by
 refine tells_of H.e H.f rfl ?_
 cases s with
 | nil=>exact absurd rfl h0
 | cons c r=>
   by_cases hc:128≤c.toNat
   ·have hc':(128:Int)≤c.toNat:=by omega
    simp[B.scan_number,go_sem,hc,hc']
    refine(number_loop (s:=c::r) hs (n0:= -1) (by omega) (by omega) (r.length+1) 0 _ (by simp) (by simp[go_sem]) (by simp[go_sem,numF]) (by simp[go_sem]) (by simp[go_sem])).mono ?_
    rintro x e' s' ⟨rfl,rfl,h⟩
    simp[go_sem,h,numS,hc,Ext.refl hwf]
   ·have hc':¬(128:Int)≤c.toNat:=by omega
    simp[B.scan_number,go_sem,hc,hc']
    refine(number_loop (s:=c::r) hs (n0:=0) (by omega) (by omega) (r.length+1) 0 _ (by simp) (by simp[go_sem]) (by simp[go_sem,numF]) (by simp[go_sem]) (by simp[go_sem])).mono ?_
    rintro x e' s' ⟨rfl,rfl,h⟩
    simp[go_sem,h,numS,hc,Ext.refl hwf]
end Go.Ev

/- Binary tokens. -/
namespace Go.Ev
open Go
variable {T : Tab} {st : St}
def fixR (k:Int) (long:Nat) (rest:List UInt8):T3:=if rest.length<long then err3 37 else((k,numS (rest.take long),[]),1+long,0)
def cntR4 (k:Int) (long:Nat) (rest:List UInt8):T3:=
 if rest.length<long then err3 37
 else if(rest.drop long).length<(numU (rest.take long)).toNat then err3 37
 else textK k ((rest.drop long).take (numU (rest.take long)).toNat) (1+long+(numU (rest.take long)).toNat)
def binR (c:UInt8) (rest:List UInt8):T3:=
 if c=128 then fixR 1 4 rest else if c=129 then fixR 1 1 rest else if c=130 then fixR 1 2 rest else if c=131 then fixR 2 4 rest
 else if c=132 then cntR4 6 1 rest else if c=133 then cntR4 6 2 rest else if c=134 then cntR4 4 1 rest else if c=135 then cntR4 3 1 rest else if c=136 then cntR4 5 1 rest
 else err3 37
structure At (st:St) (p:Nat) (s:List UInt8) (i:Nat):Prop where
 g:∃l,hget st.h p=some (rdrO l s i)
 hs:s.length<1000000000
 hi:i<s.length
theorem At.ext {p i:Nat} {s:List UInt8} {s1:St} (a:At st p s i) (x:Ext st s1) (hwf:st.Wf):At s1 p s i:=by
 obtain⟨⟨l,g⟩,h1,h2⟩:=a
 exact⟨⟨l,x.get hwf g⟩,h1,h2⟩
theorem At.r0 {p i:Nat} {s:List UInt8} (a:At st p s i):rdCell st.h p 0=some (.str s):=by obtain⟨⟨l,g⟩,_,_⟩:=a;exact rdr0 g
theorem At.r1 {p i:Nat} {s:List UInt8} (a:At st p s i):rdCell st.h p 1=some (.int .i64 (i:Int)):=by obtain⟨⟨l,g⟩,_,_⟩:=a;exact rdr1 g
theorem At.hd {p i:Nat} {s:List UInt8} (a:At st p s i):∃c,s[i]? =some c∧s.drop i=c::s.drop (i+1):=idx_some a.hi
theorem fixed_tells (H:B.H_scan_reader_fixed T) (hwf:st.Wf) {p i:Nat} {s:List UInt8} (a:At st p s i) {k:Int} {long:Nat} (hl:1≤long∧long≤4):
  Tells T st (.fn 200 [] []) [.ptr p 0,.int .i64 k,.int .i64 (long:Int)] (tk3 (fixR k long (s.drop (i+1)))):=by
 refine tells_of H.e H.f rfl ?_
 have hx:=Ext.new hwf (.cells 134 true [.int .i64 0,.int .i64 0,.str []])
 have hg:=zero_tok st.h st.nx
 have a1:=a.ext hx hwf
 have q0:=a1.r0
 have q1:=a1.r1
 have hs:=a.hs
 have hi:=a.hi
 obtain⟨I,hI⟩:∃I:Int,I=(i:Int):=⟨_,rfl⟩
 obtain⟨w,hw⟩:∃w:Int,w=(i:Int)+1:=⟨_,rfl⟩
 have ek:IntKind.i64.wrap (I+1)=w:=by rw[hI,wrap64' (by omega) (by omega),hw]
 rw[←hI]at q1
 have hsub:asubS s (some (.int .i64 w)) none=some (.str (s.drop (i+1))):=by rw[asubS_from (by omega) (by omega),hw];congr 2
 have hrl:(s.drop (i+1)).length<1000000000:=by rw[List.length_drop];omega
 clear a1 hI hw
 generalize s.drop (i+1)=R at*
 have bad:∀{s1:St},Ext st s1→hget s1.h st.nx=some (.cells 134 true [.int .i64 0,.int .i64 0,.str []])→∀k n t,Ext st ⟨hset s1.h st.nx (.cells 134 true [.int .i64 k,.int .i64 n,.str t]),s1.nx⟩:=fun e1 g1 k n t=>e1.setNew g1 (Nat.le_refl _)
 simp[B.scan_reader_fixed,go_sem,NO.run,RO.run,q0,q1,ek,hsub]
 have y:=hx.trans (Ext.aside hx.wf 13)
 simp only[Nat.add_assoc,Nat.reduceAdd]at y⊢
 unfold fixR
 by_cases h:R.length<long
 ·have h':(R.length:Int)<(long:Int):=by omega
  simp[go_sem,h,h']
  refine(stray_tells H.scan_reader_stray y.wf).use fun s2 x2=> ?_
  have g2:=x2.get y.wf hg
  simp[go_sem,tok_wr g2,WO.run,fresults,resVals,resVal,RO.run,tok_rd (hget_hset_self g2),tk3,err3]
  exact bad (y.trans x2) g2 _ _ _
 ·have h':¬(R.length:Int)<(long:Int):=by omega
  have ht:asubS R none (some (.int .i64 (long:Int)))=some (.str (R.take long)):=by rw[asubS_to (by omega) (by omega)];simp
  obtain⟨z,hz⟩:∃z:Nat,z=1+long:=⟨_,rfl⟩
  have hwl:IntKind.i64.wrap (1+(long:Int))=(z:Int):=by rw[wrap64' (by omega) (by omega)];omega
  rw[←hz]
  simp[go_sem,h,h',ht]
  have hne:R.take long≠[]:=by
   intro e
   have h3:(R.take long).length=long:=by simp;omega
   rw[e]at h3
   simp at h3
   omega
  refine(number_tellsB H.scan_number y.wf (s:=R.take long) (by simp;omega) hne).use fun s2 x2=> ?_
  have g2:=x2.get y.wf hg
  simp[go_sem,tok_wr g2,WO.run,fresults,resVals,resVal,RO.run,tok_rd (hget_hset_self g2),tk3,err3,hwl]
  exact bad (y.trans x2) g2 _ _ _
theorem counted_loop {R:List UInt8} {long:Nat} (hR:long≤R.length) (hl:long≤4) {p k m:AV}:∀(j i:Nat) (e:Env),i+j=long→eget e 0=p→eget e 1=k→eget e 2= .int .i64 (long:Int)→eget e 6=m→eget e 9= .str R→eget e 10= .int .i64 (numF 0 (R.take i))→eget e 33= .int .i64 (long:Int)→eget e 34= .int .i64 i→
  Res (run T (.loop B.scan_reader_counted_l0) e st) fun x e' s'=>x= .exit 0∧s'=st∧eget e' 0=p∧eget e' 1=k∧eget e' 2= .int .i64 (long:Int)∧eget e' 6=m∧eget e' 9= .str R∧eget e' 10= .int .i64 (numU (R.take long)):=by
 intro j
 induction j with
 | zero=>
   intro i e hi g0 g1 g2 g6 g9 g10 g33 g34
   have hil:i=long:=by omega
   subst hil
   rw[run_loop]
   simp[B.scan_reader_counted_l0,go_sem,g0,g1,g2,g6,g9,g10,g33,g34,numU]
 | succ j ih=>
   intro i e hi g0 g1 g2 g6 g9 g10 g33 g34
   have hil':(i:Int)<long:=by omega
   obtain⟨c,hc,hd⟩:=idx_some (s:=R) (i:=i) (by omega)
   obtain⟨b0,b1⟩:=numF_bnd (R.take i) 0 (by omega) (by omega) (by simp;omega)
   have hsn:=numF_snoc (R.take i) 0 c
   rw[←take_snoc hc]at hsn
   have ih2:=fun e'=>ih (i+1) e' (by omega)
   rw[hsn]at ih2
   generalize numF 0 (R.take i)=N at*
   have s1:=ishl_8 b0 b1
   have s2:=ior_step b0 b1 c.toNat_lt
   have ek:IntKind.i64.wrap ((i:Int)+1)=((i+1:Nat):Int):=wrap64' (by omega) (by omega)
   have wc:IntKind.i64.wrap (c.toNat:Int)=c.toNat:=wrap64' (by have:=c.toNat_lt;omega) (by have:=c.toNat_lt;omega)
   clear ih hi hd hR
   rw[run_loop]
   simp[B.scan_reader_counted_l0,go_sem,g0,g1,g2,g6,g9,g10,g33,g34,hil',hc,wc,s1,s2]
   exact ih2 _ (by simp[go_sem,g0]) (by simp[go_sem,g1]) (by simp[go_sem,g2]) (by simp[go_sem,g6]) (by simp[go_sem,g9]) (by simp[go_sem,s2]) (by simp[go_sem,g33]) (by simp[go_sem,ek])
theorem counted_tells (H:B.H_scan_reader_counted T) (hwf:st.Wf) {p i:Nat} {s:List UInt8} (a:At st p s i) {k:Int} {long:Nat} (hl:1≤long∧long≤2):
  Tells T st (.fn 201 [] []) [.ptr p 0,.int .i64 k,.int .i64 (long:Int)] (tk3 (cntR4 k long (s.drop (i+1)))):=by
 refine tells_of H.e H.f rfl ?_
 have hx:=Ext.new hwf (.cells 134 true [.int .i64 0,.int .i64 0,.str []])
 have hg:=zero_tok st.h st.nx
 have a1:=a.ext hx hwf
 have q0:=a1.r0
 have q1:=a1.r1
 have hs:=a.hs
 have hi:=a.hi
 obtain⟨I,hI⟩:∃I:Int,I=(i:Int):=⟨_,rfl⟩
 obtain⟨w,hw⟩:∃w:Int,w=(i:Int)+1:=⟨_,rfl⟩
 have ek:IntKind.i64.wrap (I+1)=w:=by rw[hI,wrap64' (by omega) (by omega),hw]
 rw[←hI]at q1
 have hsub:asubS s (some (.int .i64 w)) none=some (.str (s.drop (i+1))):=by rw[asubS_from (by omega) (by omega),hw];congr 2
 have hrl:(s.drop (i+1)).length<1000000000:=by rw[List.length_drop];omega
 clear a1 hI hw
 generalize s.drop (i+1)=R at*
 have bad:∀{s1:St},Ext st s1→hget s1.h st.nx=some (.cells 134 true [.int .i64 0,.int .i64 0,.str []])→∀k n t,Ext st ⟨hset s1.h st.nx (.cells 134 true [.int .i64 k,.int .i64 n,.str t]),s1.nx⟩:=fun e1 g1 k n t=>e1.setNew g1 (Nat.le_refl _)
 simp[B.scan_reader_counted,go_sem,NO.run,RO.run,q0,q1,ek,hsub]
 have y:=hx.trans (Ext.aside hx.wf 13)
 simp only[Nat.add_assoc,Nat.reduceAdd]at y⊢
 obtain⟨O,hO⟩:∃O,O=cntR4 k long R:=⟨_,rfl⟩
 rw[←hO]
 unfold cntR4 at hO
 by_cases h:R.length<long
 ·have h':(R.length:Int)<(long:Int):=by omega
  rw[if_pos h]at hO
  subst hO
  simp[go_sem,h,h']
  refine(stray_tells H.scan_reader_stray y.wf).use fun s2 x2=> ?_
  have g2:=x2.get y.wf hg
  simp[go_sem,tok_wr g2,WO.run,fresults,resVals,resVal,RO.run,tok_rd (hget_hset_self g2),tk3,err3]
  exact bad (y.trans x2) g2 _ _ _
 ·have h':¬(R.length:Int)<(long:Int):=by omega
  rw[if_neg h]at hO
  have hnb:=numF_bnd (R.take long) 0 (by omega) (by omega) (by simp;omega)
  have hn0:=numU_pos (R.take long) 0 (by omega)
  simp[go_sem,h,h']
  refine(counted_loop (R:=R) (long:=long) (by omega) (by omega) (p:= .ptr p 0) (k:= .int .i64 k) (m:= .ptr st.nx 0) long 0 _ (by simp) (by simp[go_sem]) (by simp[go_sem]) (by simp[go_sem]) (by simp[go_sem]) (by simp[go_sem]) (by simp[go_sem,numF]) (by simp[go_sem]) (by simp[go_sem])).mono ?_
  rintro x e s1 ⟨rfl,rfl,g0,g1,g2,g6,g9,g10⟩
  change _≤numU _∧numU _≤_ at hnb
  change 0≤numU _ at hn0
  obtain⟨n,hn⟩:=Int.eq_ofNat_of_zero_le hn0
  rw[hn]at g10 hO
  rw[hn]at hnb
  simp only[Int.toNat_natCast]at hO
  have hf:asubS R (some (.int .i64 (long:Int))) none=some (.str (R.drop long)):=by rw[asubS_from (by omega) (by omega)];simp
  have hdl:(R.drop long).length=R.length - long:=List.length_drop
  generalize R.drop long=R2 at*
  simp[go_sem,g0,g1,g2,g6,g9,g10,hf]
  by_cases h2:R2.length<n
  ·have h2':(R2.length:Int)<(n:Int):=by omega
   rw[if_pos h2]at hO
   subst hO
   simp[go_sem,h2,h2',g0,g1,g2,g6,g9,g10]
   refine(stray_tells H.scan_reader_stray y.wf).use fun s2 x2=> ?_
   have k2:=x2.get y.wf hg
   simp[go_sem,tok_wr k2,WO.run,fresults,resVals,resVal,RO.run,tok_rd (hget_hset_self k2),tk3,err3,g6]
   exact bad (y.trans x2) k2 _ _ _
  ·have h2':¬(R2.length:Int)<(n:Int):=by omega
   have ht:asubS R2 none (some (.int .i64 (n:Int)))=some (.str (R2.take n)):=by rw[asubS_to (by omega) (by omega)];simp
   have w1:IntKind.i64.wrap (1+(long:Int))=((1+long:Nat):Int):=by rw[wrap64' (by omega) (by omega)];omega
   obtain⟨z,hz⟩:∃z:Nat,z=1+long+n:=⟨_,rfl⟩
   have w2:IntKind.i64.wrap (1+(long:Int)+(n:Int))=(z:Int):=by rw[wrap64' (by omega) (by omega)];omega
   rw[if_neg h2,←hz]at hO
   subst hO
   simp[go_sem,h2,h2',g0,g1,g2,g6,g9,g10,ht,w1,w2]
   refine(text_tells H.scan_text y.wf (k:=k) (x:=R2.take n) (n:=z) (by simp;omega)).use fun s2 x2=> ?_
   have k2:=x2.get y.wf hg
   generalize textK k (R2.take n) z=t
   simp[go_sem,tok_wr k2,WO.run,fresults,resVals,resVal,RO.run,tok_rd (hget_hset_self k2),tk3,g6]
   exact bad (y.trans x2) k2 _ _ _
theorem binary_tells (H:B.H_scan_reader_binary T) (hwf:st.Wf) {p i:Nat} {s:List UInt8} (a:At st p s i) {c:UInt8} (hc:s[i]? =some c) (h128:128≤c.toNat):
  Tells T st (.fn 186 [] []) [.ptr p 0] (tk3 (binR c (s.drop (i+1)))):=by
 refine tells_of H.e H.f rfl ?_
 have hx:=Ext.new hwf (.cells 134 true [.int .i64 0,.int .i64 0,.str []])
 have hg:=zero_tok st.h st.nx
 have a1:=a.ext hx hwf
 have q0:=a1.r0
 have q1:=a1.r1
 have y:=hx.trans (Ext.aside hx.wf 11)
 have a2:=a.ext y hwf
 simp only[Nat.add_assoc,Nat.reduceAdd]at y a2
 have bad:∀{s1:St},Ext st s1→hget s1.h st.nx=some (.cells 134 true [.int .i64 0,.int .i64 0,.str []])→∀k n t,Ext st ⟨hset s1.h st.nx (.cells 134 true [.int .i64 k,.int .i64 n,.str t]),s1.nx⟩:=fun e1 g1 k n t=>e1.setNew g1 (Nat.le_refl _)
 obtain⟨O,hO⟩:∃O,O=binR c (s.drop (i+1)):=⟨_,rfl⟩
 rw[←hO]
 obtain⟨C,hC⟩:∃C:Int,C=(c.toNat:Int):=⟨_,rfl⟩
 have e0:c.toNat=C.toNat:=by omega
 have hcs:∀n:UInt8,c=n↔C=n.toNat:=fun n=>by rw[hC,←UInt8.toNat_inj];omega
 simp[B.scan_reader_binary,go_sem,NO.run,RO.run,q0,q1,hc]
 rw[←hC]
 have tf:=fun k long h=>fixed_tells H.scan_reader_fixed y.wf a2 (k:=k) (long:=long) h
 have tc:=fun k long h=>counted_tells H.scan_reader_counted y.wf a2 (k:=k) (long:=long) h
 unfold binR at hO
 simp only[hcs]at hO
 have fin:∀s2,Ext ⟨(st.nx,AObj.cells 134 true [.int .i64 0,.int .i64 0,.str []])::st.h,st.nx+12⟩ s2→∀O:T3,wrCells s2.h st.nx 0 [.int .i64 O.1.1,.int .i64 O.1.2.1,.str O.1.2.2]=some (hset s2.h st.nx (.cells 134 true [.int .i64 O.1.1,.int .i64 O.1.2.1,.str O.1.2.2]))∧
   rdCells (hset s2.h st.nx (.cells 134 true [.int .i64 O.1.1,.int .i64 O.1.2.1,.str O.1.2.2])) st.nx 0 3=some [.int .i64 O.1.1,.int .i64 O.1.2.1,.str O.1.2.2]∧Ext st ⟨hset s2.h st.nx (.cells 134 true [.int .i64 O.1.1,.int .i64 O.1.2.1,.str O.1.2.2]),s2.nx⟩:=by
  intro s2 x2 O
  have g2:=x2.get y.wf hg
  exact⟨tok_wr g2,tok_rd (hget_hset_self g2),bad (y.trans x2) g2 _ _ _⟩
 by_cases h0:C=128
 ·rw[if_pos (by simpa using h0)]at hO
  subst h0
  simp[go_sem]
  refine(tf 1 4 (by omega)).use fun s2 x2=> ?_
  rw[←hO]
  obtain⟨k1,k2,k3⟩:=fin s2 x2 O
  simp[go_sem,k1,WO.run,fresults,resVals,resVal,RO.run,k2,tk3,k3]
 rw[if_neg (by simpa using h0)]at hO
 by_cases h1:C=129
 ·rw[if_pos (by simpa using h1)]at hO
  subst h1
  simp[go_sem]
  refine(tf 1 1 (by omega)).use fun s2 x2=> ?_
  rw[←hO]
  obtain⟨k1,k2,k3⟩:=fin s2 x2 O
  simp[go_sem,k1,WO.run,fresults,resVals,resVal,RO.run,k2,tk3,k3]
 rw[if_neg (by simpa using h1)]at hO
 by_cases h2:C=130
 ·rw[if_pos (by simpa using h2)]at hO
  subst h2
  simp[go_sem]
  refine(tf 1 2 (by omega)).use fun s2 x2=> ?_
  rw[←hO]
  obtain⟨k1,k2,k3⟩:=fin s2 x2 O
  simp[go_sem,k1,WO.run,fresults,resVals,resVal,RO.run,k2,tk3,k3]
 rw[if_neg (by simpa using h2)]at hO
 by_cases h3:C=131
 ·rw[if_pos (by simpa using h3)]at hO
  subst h3
  simp[go_sem]
  refine(tf 2 4 (by omega)).use fun s2 x2=> ?_
  rw[←hO]
  obtain⟨k1,k2,k3⟩:=fin s2 x2 O
  simp[go_sem,k1,WO.run,fresults,resVals,resVal,RO.run,k2,tk3,k3]
 rw[if_neg (by simpa using h3)]at hO
 by_cases h4:C=132
 ·rw[if_pos (by simpa using h4)]at hO
  subst h4
  simp[go_sem]
  refine(tc 6 1 (by omega)).use fun s2 x2=> ?_
  rw[←hO]
  obtain⟨k1,k2,k3⟩:=fin s2 x2 O
  simp[go_sem,k1,WO.run,fresults,resVals,resVal,RO.run,k2,tk3,k3]
 rw[if_neg (by simpa using h4)]at hO
 by_cases h5:C=133
 ·rw[if_pos (by simpa using h5)]at hO
  subst h5
  simp[go_sem]
  refine(tc 6 2 (by omega)).use fun s2 x2=> ?_
  rw[←hO]
  obtain⟨k1,k2,k3⟩:=fin s2 x2 O
  simp[go_sem,k1,WO.run,fresults,resVals,resVal,RO.run,k2,tk3,k3]
 rw[if_neg (by simpa using h5)]at hO
 by_cases h6:C=134
 ·rw[if_pos (by simpa using h6)]at hO
  subst h6
  simp[go_sem]
  refine(tc 4 1 (by omega)).use fun s2 x2=> ?_
  rw[←hO]
  obtain⟨k1,k2,k3⟩:=fin s2 x2 O
  simp[go_sem,k1,WO.run,fresults,resVals,resVal,RO.run,k2,tk3,k3]
 rw[if_neg (by simpa using h6)]at hO
 by_cases h7:C=135
 ·rw[if_pos (by simpa using h7)]at hO
  subst h7
  simp[go_sem]
  refine(tc 3 1 (by omega)).use fun s2 x2=> ?_
  rw[←hO]
  obtain⟨k1,k2,k3⟩:=fin s2 x2 O
  simp[go_sem,k1,WO.run,fresults,resVals,resVal,RO.run,k2,tk3,k3]
 rw[if_neg (by simpa using h7)]at hO
 by_cases h8:C=136
 ·rw[if_pos (by simpa using h8)]at hO
  subst h8
  simp[go_sem]
  refine(tc 5 1 (by omega)).use fun s2 x2=> ?_
  rw[←hO]
  obtain⟨k1,k2,k3⟩:=fin s2 x2 O
  simp[go_sem,k1,WO.run,fresults,resVals,resVal,RO.run,k2,tk3,k3]
 rw[if_neg (by simpa using h8)]at hO
 simp[go_sem,h0,h1,h2,h3,h4,h5,h6,h7,h8]
 refine(stray_tells H.scan_reader_fixed.scan_reader_stray y.wf).use fun s2 x2=> ?_
 rw[←hO]
 obtain⟨k1,k2,k3⟩:=fin s2 x2 O
 simp[go_sem,k1,WO.run,fresults,resVals,resVal,RO.run,k2,tk3,k3]
end Go.Ev

/- The reference's binary tokens. -/
namespace Go.Ev
open Go
variable {T : Tab} {st : St}
end Go.Ev

/- The reference's Unhex. -/
namespace Go.Ev
open Go
variable {T : Tab} {st : St}
def hexG:List UInt8→Nat→List Nat→Option (List Nat×Nat)
 | [],_,_=>none
 | c::r,i,l=>if c=62 then some (l,i+1)else if blankC c=true then hexG r (i+1) l else if nibV c<0 then none else hexG r (i+1) (l++[(nibV c).toNat])
def prs:List Nat→List UInt8
 | []=>[]
 | [a]=>[UInt8.ofNat (16*a)]
 | a::b::r=>UInt8.ofNat (16*a+b)::prs r
def hexT (s:List UInt8):List UInt8×Nat×Int:=
 if 65536<s.length then([],0,3)else match hexG s 0 []with
  | none=>([],0,5)
  | some (l,n)=>(prs l,n,0)
theorem prs_snoc:∀(l:List Nat) (a b:Nat),l.length % 2=0→prs (l++[a,b])=prs l++[UInt8.ofNat (16*a+b)]
 | [],a,b,_=>rfl
 | [x],a,b,h=>by simp at h
 | x::y::r,a,b,h=>by
   have:=prs_snoc r a b (by simp at h;omega)
   simp[prs,this]
theorem prs_odd:∀(l:List Nat),l.length % 2=1→prs (l++[0])=prs l
 | [],h=>by simp at h
 | [x],_=>rfl
 | x::y::r,h=>by
   have:=prs_odd r (by simp at h;omega)
   simp[prs,this]
theorem prs_len:∀l:List Nat,(prs l).length≤l.length
 | []=>Nat.le_refl _
 | [x]=>Nat.le_refl _
 | x::y::r=>by have:=prs_len r;simp[prs];omega
theorem Grow.b2s {st0 s:St} {v:AV} {l:List UInt8} (a:Grow st0 s v l) {e:AO→AV} {x:AO} (hx:e x=v):RO.run e s.h (.b2s x)=some (.str l):=by
 obtain⟨⟨m,hsl⟩,b6,b7⟩:=a
 have hu8:=toBytes_u8s l
 rcases hsl with ⟨k1,k2,k3⟩ | ⟨k1,k2,k3⟩ | ⟨ty',k1,k2,k3⟩
 ·have:l=[]:=List.length_eq_zero_iff.1 k3
  subst this
  simp[RO.run,hx,k1]
 ·have hrd:rdCells s.h m 0 l.length=some (u8s l):=by
   simp[rdCells,k2,u8s_len]
   exact List.take_of_length_le (by rw[u8s_len];exact Nat.le_refl _)
  simp[RO.run,hx,k1,hrd,hu8]
 ·exact absurd k1 (b7 _ _ _ _)
theorem Grow.form {st0 s:St} {v:AV} {l:List UInt8} (a:Grow st0 s v l):(v= .nilslice∧l=[])∨∃n,v= .slice n 0 l.length .full∧rdCells s.h n 0 l.length=some (u8s l)∧st0.nx≤n:=by
 have hge:=a.ge
 obtain⟨⟨m,hsl⟩,b6,b7⟩:=a
 rcases hsl with ⟨k1,k2,k3⟩ | ⟨k1,k2,k3⟩ | ⟨ty',k1,k2,k3⟩
 ·exact .inl ⟨k1,List.length_eq_zero_iff.1 k3⟩
 ·refine .inr ⟨m,k1,?_,hge m (by rw[k1];simp[AV.nms])⟩
  simp[rdCells,k2,u8s_len]
  exact List.take_of_length_le (by rw[u8s_len];exact Nat.le_refl _)
 ·exact absurd k1 (b7 _ _ _ _)
end Go.Ev

/- The reference's Unhex told. -/
namespace Go.Ev
open Go
variable {T : Tab} {st : St}
end Go.Ev

/- Decoders that take octets one by one: what they write to, and the octets that are not blank. -/
namespace Go.Ev
open Go
variable {T : Tab} {st : St}
def Bx (st0 s:St) (q:Nat) (l:List UInt8):Prop:=st0.nx≤q∧∃v,hget s.h q=some (.cells 35 false [v])∧Grow st0 s v l∧q∉v.nms
def Safe (o:AObj):Prop:=(∀ty l,o≠.cells ty false (u8s l))∧∀ty es cs,o≠.buf ty es cs
theorem Bx.frm {st0 s s':St} {q:Nat} {l:List UInt8} {S:List Nat} (b:Bx st0 s q l) (f:Frm S s s') (hw:s.Wf) (hS:∀m∈S,m≠q∧∀o,hget s.h m=some o→Safe o):Bx st0 s' q l:=by
 obtain⟨k1,v,k2,k3,k4⟩:=b
 refine⟨k1,v,f.get hw k2 (fun h=>(hS q h).1 rfl),k3.frm f hw ?_,k4⟩
 intro n hn hm
 obtain⟨_,h⟩:=hS n hm
 rcases k3.nms hn with ⟨ty,h2⟩ | h2
 ·exact(h _ h2).1 ty l rfl
 ·exact(h _ h2).2 _ _ _ rfl
theorem Bx.ext {st0 s s':St} {q:Nat} {l:List UInt8} (b:Bx st0 s q l) (f:Ext s s') (hw:s.Wf):Bx st0 s' q l:=b.frm (f.fr []) hw (by simp)
theorem Bx.dropLoc {st0 s:St} {q c:Nat} {l:List UInt8} (b:Bx st0 s q l) (hw:s.Wf):Bx st0 ⟨Go.Ev.dropLoc c s.h,s.nx⟩ q l:=by
 obtain⟨k1,v,k2,k3,k4⟩:=b
 exact⟨k1,v,hget_dropLoc_keep hw k2 rfl,k3.dropLoc hw,k4⟩
theorem emit_body {st0:St} (hx:Ext st0 st) {q:Nat} {l m:List UInt8} {x:AV} (hm:Rd st.h x 1 m.length (u8s m)) (b:Bx st0 st q l) (hl:l.length+m.length<35184372088831):
  ∃v,rdCell st.h q 0=some v∧CRes (aappend 5 1 1 st v x) fun v' s=>acells v'=[v']∧∃h',wrCells s.h q 0 [v']=some h'∧(Ext st0 ⟨h',s.nx⟩∧Bx st0 ⟨h',s.nx⟩ q (l++m))∧∀n o,n≠q→hget st.h n=some o→Safe o→hget h' n=some o:=by
 obtain⟨k1,v,k2,k3,k4⟩:=b
 refine⟨v,rd_one k2,(k3.app hx.nx hx.wf hm hl).mono ?_⟩
 rintro v2 s2 ⟨o2,f2⟩
 have x2:Ext st0 s2:=hx.frm f2 k3.ge
 have g2:=f2.get hx.wf k2 k4
 have hw2:wrCells s2.h q 0 [v2]=some (hset s2.h q (.cells 35 false [v2])):=wr_one g2 o2.sc
 have f3:=Frm.set x2.wf g2 (o:= .cells 35 false [v2])
 have hv:∀k n,v≠.int k n:=by
  rcases k3.form with ⟨e,_⟩ | ⟨n,e,_⟩ <;> rw[e] <;> simp
 have hq2:q∉v2.nms:=o2.apart g2 (x:=v) (by simp) hv
 refine⟨o2.acells,_,hw2,⟨x2.frm f3 (by simpa using k1),k1,v2,hget_hset_self g2,o2.frm f3 x2.wf (by intro n hn h;simp at h;subst h;exact hq2 hn),hq2⟩,?_⟩
 intro n o hn ho hs
 have hnv:n∉v.nms:=by
  intro h
  rcases k3.nms h with ⟨ty,k⟩ | k <;> rw[ho]at k <;> injection k with k
  ·exact hs.1 _ _ k
  ·exact hs.2 _ _ _ k
 have:=f2.get hx.wf ho hnv
 rw[hget_hset_ne g2 (by omega)]
 exact this
theorem emit_half (H:B.H_ascii_read_ascii_half_1 T) {st0:St} (hx:Ext st0 st) {q:Nat} {l m:List UInt8} {x:AV} (hm:Rd st.h x 1 m.length (u8s m)) (b:Bx st0 st q l) (hl:l.length+m.length<35184372088831):
  CRes (call T (.fn 218 [] [.ptr q 0]) [x] st) fun _ s'=>(Ext st0 s'∧Bx st0 s' q (l++m))∧∀n o,n≠q→hget st.h n=some o→Safe o→hget s'.h n=some o:=by
 refine call_any H.e H.f rfl rfl ?_
 obtain⟨v,hv,hap⟩:=emit_body hx hm b hl
 simp[B.ascii_read_ascii_half_1,go_sem,RO.run,hv]
 refine hap.mono ?_
 rintro v2 s2 ⟨ha,h',h1,⟨h2,h3⟩,h4⟩
 simp[go_sem,WO.run,ha,h1]
 refine⟨⟨h2.dropGe hx.nx,h3.dropLoc h2.wf⟩,fun n o hn ho hs=> ?_⟩
 show hget (Go.Ev.dropLoc st.nx _) n=_
 rw[hget_dropLoc_lt (hx.wf.lt _ _ ho)]
 exact h4 n o hn ho hs
theorem bounded_tells (H:B.H_ascii_bounded T) (hwf:st.Wf) {s:List UInt8}:Tells T st (.fn 220 [] []) [.str s] (.tuple [.str (if 65536<s.length then []else s),.int .i64 (if 65536<s.length then 3 else 0)]):=by
 refine tells_of H.e H.f rfl ?_
 by_cases h:65536<s.length
 ·simp[B.ascii_bounded,go_sem,h,show (65536:Int)<s.length by omega,Ext.refl hwf]
 ·simp[B.ascii_bounded,go_sem,h,show¬(65536:Int)<s.length by omega,Ext.refl hwf]
theorem solid_loop (H:B.H_ascii_solid_1 T) {s:List UInt8} (hs:s.length≤65536) {Y:AV} {bx:Nat} (P:Nat→St→Prop) (D:St→Prop) (hwf:∀i s',P i s'→s'.Wf) (hbx:∀i s',P i s'→hget s'.h bx=some (.cells 9 false [.str s])) (hup:∀i s' s'',P i s'→Ext s' s''→P i s'')
  (hsk:∀i s' c,s[i]? =some c→blankC c=true→P i s'→P (i+1) s')
  (hY:∀i s' (c:UInt8),s[i]? =some c→blankC c=false→P i s'→CRes (call T Y [.int .i64 (i:Int),.int .u8 (c.toNat:Int)] s') fun v s2=>(v= .bool true∧P (i+1) s2)∨(v= .bool false∧D s2)):
  ∀(m i:Nat) (e:Env) (st1:St),i+m=s.length→P i st1→eget e 0=Y→eget e 1= .ptr bx 0→eget e 5= .int .i64 (s.length:Int)→eget e 6= .int .i64 (i:Int)→
  Res (run T (.loop B.ascii_solid_1_l0) e st1) fun x e' s'=>(x= .exit 0∧P s.length s')∨(x= .ret∧D s'):=by
 intro m
 induction m with
 | zero=>
   intro i e st1 hi hP g0 g1 g5 g6
   have hil:i=s.length:=by omega
   subst hil
   rw[run_loop]
   simp[B.ascii_solid_1_l0,go_sem,g0,g1,g5,g6,hP]
 | succ m ih=>
   intro i e st1 hi hP g0 g1 g5 g6
   have hil:i<s.length:=by omega
   obtain⟨c,hc,hd⟩:=idx_some hil
   have h1:(i:Int)<s.length:=by omega
   have ek:IntKind.i64.wrap ((i:Int)+1)=((i+1:Nat):Int):=wrap64' (by omega) (by omega)
   have hb:=rd_one (hbx _ _ hP)
   rw[run_loop]
   simp[B.ascii_solid_1_l0,go_sem,g0,g1,g5,g6,h1,RO.run,hb,hc]
   refine(asciiBlank_tells H.ascii_blank (hwf _ _ hP) c).use fun s1 x1=> ?_
   have hP1:=hup _ _ _ hP x1
   cases hbl:blankC c with
   | true=>
     simp[go_sem,g0,g1,g5,g6]
     exact ih (i+1) _ _ (by omega) (hsk _ _ _ hc hbl hP1) (by simp[go_sem,g0]) (by simp[go_sem,g1]) (by simp[go_sem,g5]) (by simp[go_sem,g6,ek])
   | false=>
     have hb1:=rd_one (hbx _ _ hP1)
     simp[go_sem,g0,g1,g5,g6,RO.run,hb1,hc]
     refine(hY _ _ c hc hbl hP1).mono ?_
     rintro v s2 (⟨rfl,hP2⟩ | ⟨rfl,hD⟩)
     ·simp[go_sem,g0,g1,g5,g6]
      exact ih (i+1) _ _ (by omega) hP2 (by simp[go_sem,g0]) (by simp[go_sem,g1]) (by simp[go_sem,g5]) (by simp[go_sem,g6,ek])
     ·simp[go_sem,hD]
theorem solid_yields (H:B.H_ascii_solid_1 T) {s:List UInt8} (hs:s.length≤65536) {Y:AV} {bx:Nat} (P:Nat→St→Prop) (D:St→Prop) (hwf:∀i s',P i s'→s'.Wf) (hbx:∀i s',P i s'→hget s'.h bx=some (.cells 9 false [.str s])) (hup:∀i s' s'',P i s'→Ext s' s''→P i s'')
  (hsk:∀i s' c,s[i]? =some c→blankC c=true→P i s'→P (i+1) s')
  (hY:∀i s' (c:UInt8),s[i]? =some c→blankC c=false→P i s'→CRes (call T Y [.int .i64 (i:Int),.int .u8 (c.toNat:Int)] s') fun v s2=>(v= .bool true∧P (i+1) s2)∨(v= .bool false∧D s2)) (h0:P 0 st)
  {Q:St→Prop} (hQ:∀s',P s.length s'∨D s'→Q ⟨dropLoc st.nx s'.h,s'.nx⟩):
  CRes (call T (.fn 225 [] [.ptr bx 0]) [Y] st) fun _ s'=>Q s':=by
 refine call_any H.e H.f rfl rfl ?_
 have hb:=rd_one (hbx _ _ h0)
 simp[B.ascii_solid_1,go_sem,RO.run,hb]
 refine(solid_loop H hs P D hwf hbx hup hsk hY s.length 0 _ st (by simp) h0 (by simp[go_sem]) (by simp[go_sem]) (by simp[go_sem]) (by simp[go_sem])).mono ?_
 rintro x e' s' (⟨rfl,h⟩ | ⟨rfl,h⟩)
 ·simp[go_sem];exact hQ _ (.inl h)
 ·simp[go_sem];exact hQ _ (.inr h)
end Go.Ev

/- What a decoder reads: over any step. -/
namespace Go.Ev
open Go
variable {T : Tab} {st : St}
structure Dec (T:Tab) (st0:St) (p q tk em:Nat) {σ:Type} (I:σ→St→Prop) (out:σ→List UInt8) (stepF:σ→UInt8→Option (Bool×σ)):Prop where
 ext:∀x s,I x s→Ext st0 s
 bx:∀x s,I x s→Bx st0 s q (out x)
 frm:∀x s s' S,I x s→Frm S s s'→(∀m∈S,st0.nx≤m∧m≠p∧m≠q∧∀o,hget s.h m=some o→Safe o)→I x s'
 loc:∀x s c,st0.nx≤c→I x s→I x ⟨dropLoc c s.h,s.nx⟩
 take:∀x s (c:UInt8),I x s→(out x).length≤1000000→CRes (call T (.fn tk [] []) [.ptr p 0,.int .u8 (c.toNat:Int),.fn em [] [.ptr q 0]] s) fun v s'=>
  Ext st0 s'∧(∀m o,m≠p→m≠q→hget s.h m=some o→Safe o→hget s'.h m=some o)∧
  match stepF x c with
  | none=>v= .int .i64 2
  | some (true,x')=>v= .int .i64 1∧Bx st0 s' q (out x')
  | some (false,x')=>v= .int .i64 0∧I x' s'
 len:∀x c b x',stepF x c=some (b,x')→(out x').length≤(out x).length+4
def runD {σ:Type} (stepF:σ→UInt8→Option (Bool×σ)):σ→List UInt8→Nat→Option (σ×Nat)
 | _,[],_=>none
 | x,c::r,i=>if blankC c=true then runD stepF x r (i+1)else match stepF x c with
   | none=>none
   | some (true,x')=>some (x',i+1)
   | some (false,x')=>runD stepF x' r (i+1)
def readT {σ:Type} (stepF:σ→UInt8→Option (Bool×σ)) (out:σ→List UInt8) (x0:σ) (s:List UInt8):List UInt8×Nat×Int:=
 if 65536<s.length then([],0,3)else match runD stepF x0 s 0 with
  | none=>([],0,5)
  | some (x,n)=>if 65536<(out x).length then([],0,3)else(out x,n,0)
theorem safe_loc (ty:Nat) (cs:List AV):Safe (.cells ty true cs):=⟨fun t l h=>(by injection h with _ h;cases h),fun t e c h=>by cases h⟩
theorem safe_loop (r:LSt) (e:Env) (ps:List Nat) (a b:MCode):Safe (.loop r e ps a b):=⟨fun t l h=>(by cases h),fun t e c h=>by cases h⟩
theorem safe_str (s:List UInt8):Safe (.cells 9 false [.str s]):=⟨fun t l h=>by
 injection h with _ _ h
 cases l with
 | nil=>simp[u8s]at h
 | cons c l=>simp[u8s]at h,fun t e c h=>by cases h⟩
theorem solid_call (H:B.H_ascii_solid T) (hwf:st.Wf) {s:List UInt8} {Q:AV→St→Prop} (h:Q (.fn 225 [] [.ptr st.nx 0]) ⟨(st.nx,.cells 9 false [.str s])::st.h,st.nx+1⟩):CRes (call T (.fn 219 [] []) [.str s] st) Q:=by
 refine call_res H.e H.f rfl ?_
 have hd:dropLoc st.nx ((st.nx,AObj.cells 9 false [.str s])::st.h)=(st.nx,AObj.cells 9 false [.str s])::st.h:=by
  have:locNames st.nx ((st.nx,AObj.cells 9 false [.str s])::st.h)=[]:=by
   simp only[locNames]
   exact locNames_nil fun n o ho=>hwf.lt n o ho
  rw[dropLoc_eq,this,hdrop_nil]
 simp[B.ascii_solid,go_sem,NO.run,AV.nb,hd]
 exact h
def Keeps (K:List (Nat×AObj)) (s:St):Prop:=∀m o,(m,o)∈K→hget s.h m=some o
theorem Keeps.ext {K:List (Nat×AObj)} {s s':St} (a:Keeps K s) (x:Ext s s') (hw:s.Wf):Keeps K s':=fun m o h=>x.get hw (a m o h)
theorem Keeps.frm {K:List (Nat×AObj)} {s s':St} {S:List Nat} (a:Keeps K s) (x:Frm S s s') (hw:s.Wf) (h:∀m o,(m,o)∈K→m∉S):Keeps K s':=fun m o hm=>x.get hw (a m o hm) (h m o hm)
def cO (n:Int):AObj:= .cells 3 true [.int .i64 n]
def kR1 (n p em:Nat) (ty1 ty2 tk:Nat) (s:List UInt8):List (Nat×AObj):=
 [(n,.cells ty1 true [.ptr p 0]),(n+1,.cells ty2 true [.fn tk [] []]),(n+2,.cells 9 true [.str []]),(n+3,cO 0),(n+4,.cells 30 true [.int .i64 0]),(n+6,.cells 310 true [.fn em [] [.ptr (n+5) 0]]),(n+8,.cells 9 false [.str s])]
theorem kR1_safe {n p em ty1 ty2 tk:Nat} {s:List UInt8}:∀m o,(m,o)∈kR1 n p em ty1 ty2 tk s→Safe o∧(m=n∨m=n+1∨m=n+2∨m=n+3∨m=n+4∨m=n+6∨m=n+8):=by
 intro m o h
 simp only[kR1,List.mem_cons,Prod.mk.injEq,List.not_mem_nil,or_false]at h
 rcases h with ⟨rfl,rfl⟩ | ⟨rfl,rfl⟩ | ⟨rfl,rfl⟩ | ⟨rfl,rfl⟩ | ⟨rfl,rfl⟩ | ⟨rfl,rfl⟩ | ⟨rfl,rfl⟩
 ·exact⟨safe_loc _ _,by omega⟩
 ·exact⟨safe_loc _ _,by omega⟩
 ·exact⟨safe_loc _ _,by omega⟩
 ·exact⟨safe_loc _ _,by omega⟩
 ·exact⟨safe_loc _ _,by omega⟩
 ·exact⟨safe_loc _ _,by omega⟩
 ·exact⟨safe_str _,by omega⟩
def EndD {σ:Type} (stepF:σ→UInt8→Option (Bool×σ)) (out:σ→List UInt8) (x0:σ) (s:List UInt8) (st0:St) (n:Nat) (s':St):Prop:=
 ∃x k,runD stepF x0 s 0=some (x,k)∧(out x).length≤1000000∧0<k∧k≤s.length∧Bx st0 s' (n+5) (out x)∧hget s'.h (n+7)=some (cO k)∧hget s'.h (n+2)=some (.cells 9 true [.str []])∧hget s'.h (n+3)=some (cO 0)∧hget s'.h (n+4)=some (.cells 30 true [.int .i64 0])
def BadD {σ:Type} (stepF:σ→UInt8→Option (Bool×σ)) (x0:σ) (s:List UInt8) (n:Nat) (s':St):Prop:=
 runD stepF x0 s 0=none∧hget s'.h (n+2)=some (.cells 9 true [.str []])∧hget s'.h (n+3)=some (cO 0)∧hget s'.h (n+4)=some (.cells 30 true [.int .i64 5])
theorem readRound_half {st0 st s1:St} {p:Nat} {σ:Type} {I:σ→St→Prop} {out:σ→List UInt8} {stepF:σ→UInt8→Option (Bool×σ)} {x0 x:σ} (hd:Dec T st0 p (st.nx+5) 215 218 I out stepF) (hp:p<st.nx) (h0:st0.nx≤st.nx) {s:List UInt8} (hs:s.length≤65536) {i:Nat} {c:UInt8} (hc:s[i]? =some c) (hb:blankC c=false)
  {O:AObj} (hO:Safe O) (hI:I x s1) (hK:Keeps (kR1 st.nx p 218 302 303 215 s) s1) (hat:hget s1.h (st.nx+7)=some (cO 0)) (hl:hget s1.h (st.nx+9)=some O) (hr:runD stepF x0 s 0=runD stepF x (s.drop i) i) (ho:(out x).length≤4*i)
  {e:Env} (g4:eget e 4= .ptr st.nx 0) (g5:eget e 5= .ptr (st.nx+1) 0) (g6:eget e 6= .ptr (st.nx+2) 0) (g7:eget e 7= .ptr (st.nx+3) 0) (g8:eget e 8= .ptr (st.nx+4) 0) (g10:eget e 10= .ptr (st.nx+6) 0) (g11:eget e 11= .ptr (st.nx+7) 0) (g12:eget e 12= .int .i64 (i:Int)) (g13:eget e 13= .int .u8 (c.toNat:Int)):
  Res (run T B.ascii_read_ascii_half_l0 e s1) fun r _ s'=>hget s'.h (st.nx+9)=some O∧Ext st0 s'∧
   ((r= .norm∧Keeps (kR1 st.nx p 218 302 303 215 s) s'∧hget s'.h (st.nx+7)=some (cO 0)∧∃x',I x' s'∧runD stepF x0 s 0=runD stepF x' (s.drop (i+1)) (i+1)∧(out x').length≤4*(i+1))∨
    (r= .exit 0∧EndD stepF out x0 s st0 st.nx s')∨(r= .ret∧BadD stepF x0 s st.nx s')):=by
 have hil:i<s.length:=by
  rcases Nat.lt_or_ge i s.length with h | h
  ·exact h
  ·rw[List.getElem?_eq_none h]at hc;cases hc
 obtain⟨c',hc',hdr⟩:=idx_some hil
 rw[hc]at hc'
 cases hc'
 have k4:=rd_one (hK _ _ (by simp[kR1]):hget s1.h st.nx=some (.cells 302 true [.ptr p 0]))
 have k5:=rd_one (hK _ _ (by simp[kR1]):hget s1.h (st.nx+1)=some (.cells 303 true [.fn 215 [] []]))
 have k10:=rd_one (hK _ _ (by simp[kR1]):hget s1.h (st.nx+6)=some (.cells 310 true [.fn 218 [] [.ptr (st.nx+5) 0]]))
 have x1:=hd.ext _ _ hI
 rw[hdr,runD,if_neg (by simp[hb])]at hr
 have ht:=hd.take x s1 c hI (by omega)
 have hlen:=hd.len x c
 have ek:IntKind.i64.wrap ((i:Int)+1)=((i+1:Nat):Int):=wrap64' (by omega) (by omega)
 simp[B.ascii_read_ascii_half_l0,go_sem,RO.run,g4,g5,g10,g13,k4,k5,k10]
 refine ht.mono ?_
 rintro v s2 ⟨x2,hf,hcase⟩
 have hK2:Keeps (kR1 st.nx p 218 302 303 215 s) s2:=fun m o h=>by
  obtain⟨a1,a2⟩:=kR1_safe m o h
  exact hf m o (by omega) (by omega) (hK m o h) a1
 have hat2:=hf _ _ (by omega) (by omega) hat (safe_loc _ _)
 have hl2:=hf _ _ (by omega) (by omega) hl hO
 cases hst:stepF x c with
 | none=>
   rw[hst]at hcase hr
   subst hcase
   have q6:hget s2.h (st.nx+2)=some (.cells 9 true [.str []]):=hK2 _ _ (by simp[kR1])
   have q7:hget s2.h (st.nx+3)=some (cO 0):=hK2 _ _ (by simp[kR1])
   have q8:hget s2.h (st.nx+4)=some (.cells 30 true [.int .i64 0]):=hK2 _ _ (by simp[kR1])
   have w6:=wr_one (v:= .str []) q6 rfl
   have y6:=x2.setNew q6 (o:= .cells 9 true [.str []]) (by omega)
   have p7:=(hget_hset_ne (o:= .cells 9 true [.str []]) q6 (show st.nx+2≠st.nx+3 by omega)).trans q7
   have w7:=wr_one (v:= .int .i64 0) p7 rfl
   have y7:=y6.setNew p7 (o:=cO 0) (by omega)
   have p8:=(hget_hset_ne (o:=cO 0) p7 (show st.nx+3≠st.nx+4 by omega)).trans ((hget_hset_ne (o:= .cells 9 true [.str []]) q6 (show st.nx+2≠st.nx+4 by omega)).trans q8)
   have w8:=wr_one (v:= .int .i64 5) p8 rfl
   have y8:=y7.setNew p8 (o:= .cells 30 true [.int .i64 5]) (by omega)
   have z9:=(hget_hset_ne (o:= .cells 30 true [.int .i64 5]) p8 (show st.nx+4≠st.nx+9 by omega)).trans ((hget_hset_ne (o:=cO 0) p7 (show st.nx+3≠st.nx+9 by omega)).trans ((hget_hset_ne (o:= .cells 9 true [.str []]) q6 (show st.nx+2≠st.nx+9 by omega)).trans hl2))
   have z2:=(hget_hset_ne (o:= .cells 30 true [.int .i64 5]) p8 (show st.nx+4≠st.nx+2 by omega)).trans ((hget_hset_ne (o:=cO 0) p7 (show st.nx+3≠st.nx+2 by omega)).trans (hget_hset_self q6))
   have z3:=(hget_hset_ne (o:= .cells 30 true [.int .i64 5]) p8 (show st.nx+4≠st.nx+3 by omega)).trans (hget_hset_self (o:=cO 0) p7)
   have z4:=hget_hset_self (o:= .cells 30 true [.int .i64 5]) p8
   simp only[cO]at w7 y7 w8 y8 p8 z9 z2 z3 z4
   simp[go_sem,WO.run,g6,g7,g8,w6,w7,w8]
   exact⟨z9,y8,hr,z2,z3,z4⟩
 | some bx=>
   obtain⟨b,x'⟩:=bx
   rw[hst]at hcase hr
   have hl4:=hlen _ _ hst
   cases b with
   | false=>
     obtain⟨rfl,hI2⟩:=hcase
     simp[go_sem]
     exact⟨hl2,x2,hK2,hat2,x',hI2,hr,by omega⟩
   | true=>
     obtain⟨rfl,hI2⟩:=hcase
     have w11:=wr_one (v:= .int .i64 ((i+1:Nat):Int)) hat2 rfl
     have f11:=Frm.set x2.wf hat2 (o:=cO ((i+1:Nat):Int))
     have q6:hget s2.h (st.nx+2)=some (.cells 9 true [.str []]):=hK2 _ _ (by simp[kR1])
     have q7:hget s2.h (st.nx+3)=some (cO 0):=hK2 _ _ (by simp[kR1])
     have q8:hget s2.h (st.nx+4)=some (.cells 30 true [.int .i64 0]):=hK2 _ _ (by simp[kR1])
     have y11:=x2.setNew hat2 (o:=cO ((i+1:Nat):Int)) (by omega)
     have hB:=hI2.frm f11 x2.wf (by intro m hm;simp at hm;subst hm;exact⟨by omega,fun o ho=>by rw[hat2]at ho;cases ho;exact safe_loc _ _⟩)
     have z9:=(hget_hset_ne (o:=cO ((i+1:Nat):Int)) hat2 (show st.nx+7≠st.nx+9 by omega)).trans hl2
     have z2:=(hget_hset_ne (o:=cO ((i+1:Nat):Int)) hat2 (show st.nx+7≠st.nx+2 by omega)).trans q6
     have z3:=(hget_hset_ne (o:=cO ((i+1:Nat):Int)) hat2 (show st.nx+7≠st.nx+3 by omega)).trans q7
     have z4:=(hget_hset_ne (o:=cO ((i+1:Nat):Int)) hat2 (show st.nx+7≠st.nx+4 by omega)).trans q8
     have z7:=hget_hset_self (o:=cO ((i+1:Nat):Int)) hat2
     obtain⟨w,hw⟩:∃w:Nat,w=i+1:=⟨_,rfl⟩
     rw[←hw]at ek w11 y11 hB z9 z2 z3 z4 z7 hr
     simp[go_sem,WO.run,g11,g12,ek,w11]
     exact⟨z9,y11,x',w,hr,by omega,by omega,by omega,hB,z7,z2,z3,z4⟩
end Go.Ev
