/- The abstract bodies of the functions, printed by a program of this work. -/
import Derived.Test.YthckfhllgpfidaaGreatDoorP07
namespace Go.Ev.B
open Go
def chaselaw04_ScanNexts_l0:MCode:=(.seq (.keep [0,2,7,27,28,29]) (.seq (.reg [p 30 (.bin .lss 29 28)]) (.seq (.cond 30 .skip (.exit 0)) (.seq (.block 1 (.seq (.reg [p 31 (.iaddrS
 1 27 29),r 32 (.load none 31),p 9 (.mov 32)]) (.seq (.reg [p 33 (.mov 9),p 34 (.conv .i64 33),p 35 (.bin .rem 34 (.k (.int .i64 31))),p 10 (.mov 35)]) (.reg [p 36 (.mov 7),p 37
 (.mov 10),p 38 (.mov 10),p 39 (.bin .add 38 (.k (.int .i64 1))),p 40 (.subS (.k (.str [40,40,41,60,60,62,62,91,123,125,47,47,37,126,32,10,92,97,49,35,46,53,
 128,129,132,135,1,0,159,160,45])) (some 37) (some 39)),p 41 (.bin .add 36 40),p 7 (.mov 41)])))) (.seq (.keep [0,2,7,27,28,29]) (.reg [p 42 (.bin .add 29 (.k (.int .i64
 1))),p 29 (.mov 42)]))))))
def chaselaw04_ScanNexts_l1:MCode:=(.seq (.keep [2,12,49,50,57,58]) (.seq (.reg [p 59 (.bin .lss 58 (.k (.int .i64 3)))]) (.seq (.cond 59 .skip (.exit 4)) (.seq (.block 5 (.seq
 (.reg [p 60 (.idxA 3 1 none 57 58),p 14 (.mov 60)]) (.seq (.reg [p 62 (.mov 12),p 63 (.mov 14),w 64 (.call (.k (.fn 158 [] [])) [62,63]),p 61 (.mov 64),p 65 (.extr 0 61),p 66
 (.extr 1 61),p 67 (.extr 2 61),n 15 (.alloc 134 true [(.int .i64 0),(.int .i64 0),(.str [])]),w0 (.store 3 15 65),p 16 (.mov 66),p 17 (.mov 67)]) (.seq (.keep [2,12,14,15,
 16,17,49,50,57,58]) (.seq (.reg [p 69 (.mov 12),p 70 (.mov 14),w 71 (.call (.k (.fn 159 [] [])) [69,70]),p 68 (.mov 71),p 72 (.extr 0 68),p 73 (.extr 1 68),p 74 (.extr 2
 68),n 18 (.alloc 134 true [(.int .i64 0),(.int .i64 0),(.str [])]),w0 (.store 3 18 72),p 19 (.mov 73),p 20 (.mov 74)]) (.seq (.keep [2,12,15,16,17,18,19,20,49,50,57,
 58]) (.seq (.reg [r 75 (.load (some 3) 15),r 76 (.load (some 3) 18),p 77 (.eqA true [(.i .i64),(.i .i64),.s] 75 76),p 78 (.mov 77),pg 79 78 false (.mov 16),pg 80 78 false (.mov
 19),pg 81 78 false (.bin .neq 79 80),p 82 (.pick 78 (.k (.bool true)) 81),p 83 (.mov 82),pg 84 83 false (.mov 17),pg 85 83 false (.mov 20),pg 86 83 false (.bin .neq 84 85),p
 87 (.pick 83 (.k (.bool true)) 86)]) (.seq (.keep [2,12,49,50,57,58,87]) (.cond 87 (.seq (.reg [p 6 (.mov (.k (.bool false)))]) .ret) .skip))))))))) (.seq (.keep [2,12,49,50,
 57,58]) (.reg [p 88 (.bin .add 58 (.k (.int .i64 1))),p 58 (.mov 88)]))))))
def chaselaw04_ScanNexts_l2:MCode:=(.seq (.keep [2,49,50]) (.seq (.reg [p 51 (.bin .lss 50 (.k (.int .i64 2)))]) (.seq (.cond 51 .skip (.exit 2)) (.seq (.block 3 (.seq (.reg [p
 52 (.idxA 2 1 none 49 50),p 12 (.mov 52)]) (.seq (.reg [p 53 (.mov 2),p 54 (.mov 12),p 55 (.lenOf true 54),p 56 (.bin .quo 55 (.k (.int .i64 2))),p 57 (.build [(.int .i64 0),(.int
 .i64 0),(.int .i64 0)] [(0,1,53),(1,1,(.k (.int .i64 0))),(2,1,56)]),p 58 (.mov (.k (.int .i64 0)))]) (.block 4 (.loop chaselaw04_ScanNexts_l1))))) (.seq (.keep [2,49,50])
 (.reg [p 89 (.bin .add 50 (.k (.int .i64 1))),p 50 (.mov 89)]))))))
def chaselaw04_ScanNexts:MFun:=⟨3,[.t 6],(.seq (.reg [p 6 (.mov (.k (.bool false)))]) (.seq (.seq (.reg [w 21 (.call (.k (.fn 157 [] [])) []),p 22 (.un .not 21)]) (.cond 22 (.seq
 (.reg [p 6 (.mov (.k (.bool false)))]) .ret) .skip)) (.seq (.reg [p 7 (.mov (.k (.str [])))]) (.seq (.seq (.reg [p 23 (.mov 1),p 24 (.mov 1),p 25 (.lenOf false 24),p 26 (.minmax
 false [25,(.k (.int .i64 60))]),p 27 (.subL 1 23 none (some 26) none),p 28 (.lenOf false 27),p 29 (.mov (.k (.int .i64 0)))]) (.block 0 (.loop chaselaw04_ScanNexts_l0))) (.seq (.keep
 [0,2,7]) (.seq (.seq (.reg [p 43 (.mov 0),p 44 (.mov 0),p 45 (.lenOf true 44),p 46 (.minmax false [45,(.k (.int .i64 300))]),p 47 (.subS 43 none (some 46)),p 48 (.mov 7),p
 49 (.build [(.str []),(.str [])] [(0,1,47),(1,1,48)]),p 50 (.mov (.k (.int .i64 0)))]) (.seq (.keep [2,49,50]) (.block 2 (.loop chaselaw04_ScanNexts_l2)))) (.seq (.keep [])
 (.seq (.reg [p 6 (.mov (.k (.bool true)))]) .ret))))))))⟩
def chaselaw04_works:MFun:=⟨0,[.t 0],(.seq (.reg [p 0 (.mov (.k (.bool false)))]) (.seq (.reg [p 17 (.build [(.int .i64 0),(.int .i64 0),(.str [])] [(0,1,(.k (.int .i64 4))),
 (2,1,(.k (.str [97])))]),p 18 (.build [(.int .i64 0),(.int .i64 0),(.str [])] [(0,1,(.k (.int .i64 7)))]),w 19 (.call (.k (.fn 173 [] [])) [(.k (.int .i64 1))]),p 20 (.build
 [(.int .i64 0),(.int .i64 0),(.str [])] [(0,1,(.k (.int .i64 2))),(1,1,(.k (.int .i64 32768)))]),p 21 (.build [(.int .i64 0),(.int .i64 0),(.str [])] [(0,1,(.k (.int .i64
 8)))]),p 22 (.build [(.int .i64 0),(.int .i64 0),(.str [])] [(0,1,(.k (.int .i64 5))),(2,1,(.k (.str [98])))]),n 23 (.buildSl 134 6 [(.int .i64 0),(.int .i64 0),(.str []),
 (.int .i64 0),(.int .i64 0),(.str []),(.int .i64 0),(.int .i64 0),(.str []),(.int .i64 0),(.int .i64 0),(.str []),(.int .i64 0),(.int .i64 0),(.str []),(.int .i64 0),(.int
 .i64 0),(.str [])] [(0,3,17),(3,3,18),(6,3,19),(9,3,20),(12,3,21),(15,3,22)]),w 24 (.call (.k (.fn 168 [] [])) [(.k (.str [47,97,123,49,32,46,53,125,47,47,
 98])),23]),p 1 (.mov 24)]) (.seq (.keep [1]) (.seq (.reg [p 25 (.mov 1),p 26 (.mov 25),wg 27 26 true (.call (.k (.fn 172 [] [])) [(.k (.str [91]))]),wg 28 26 true (.call (.k (.fn
 172 [] [])) [(.k (.str [60,60]))]),wg 29 26 true (.call (.k (.fn 172 [] [])) [(.k (.str [62,62]))]),wg 30 26 true (.call (.k (.fn 172 [] [])) [(.k (.str [93]))]),wg 31 26 true
 (.call (.k (.fn 171 [] [])) [(.k (.str [121]))]),wg 32 26 true (.call (.k (.fn 171 [] [])) [(.k (.str [65]))]),ng 33 26 true (.buildSl 134 6 [(.int .i64 0),(.int .i64 0),(.str []),
 (.int .i64 0),(.int .i64 0),(.str []),(.int .i64 0),(.int .i64 0),(.str []),(.int .i64 0),(.int .i64 0),(.str []),(.int .i64 0),(.int .i64 0),(.str []),(.int .i64 0),(.int
 .i64 0),(.str [])] [(0,3,27),(3,3,28),(6,3,29),(9,3,30),(12,3,31),(15,3,32)]),wg 34 26 true (.call (.k (.fn 168 [] [])) [(.k (.str [91,60,60,32,62,62,93,37,
 120,10,40,121,41,60,52,49,62])),33]),p 35 (.pick 26 34 (.k (.bool false))),p 1 (.mov 35)]) (.seq (.keep [1]) (.seq (.reg [p 36 (.mov 1),p 37 (.mov 36),wg 38 37 true (.call
 (.k (.fn 173 [] [])) [(.k (.int .i64 (-1)))]),wg 39 37 true (.call (.k (.fn 173 [] [])) [(.k (.int .i64 256))]),wg 40 37 true (.call (.k (.fn 171 [] [])) [(.k (.str [97,98]))]),
 wg 41 37 true (.call (.k (.fn 172 [] [])) [(.k (.str [113]))]),ng 42 37 true (.buildSl 134 4 [(.int .i64 0),(.int .i64 0),(.str []),(.int .i64 0),(.int .i64 0),(.str []),(.int
 .i64 0),(.int .i64 0),(.str []),(.int .i64 0),(.int .i64 0),(.str [])] [(0,3,38),(3,3,39),(6,3,40),(9,3,41)]),wg 43 37 true (.call (.k (.fn 168 [] [])) [(.k (.str [129,
 255,130,1,0,132,2,97,98,135,1,113])),42]),p 44 (.pick 37 43 (.k (.bool false))),p 1 (.mov 44)]) (.seq (.keep [1]) (.seq (.reg [w 46 (.call (.k (.fn 158 [] [])) [(.k (.str
 [32,32,41])),(.k (.int .i64 0))]),p 45 (.mov 46),p 47 (.extr 0 45),p 48 (.extr 1 45),p 49 (.extr 2 45),n 2 (.alloc 134 true [(.int .i64 0),(.int .i64 0),(.str [])]),w0 (.store
 3 2 47),p 3 (.mov 48),p 4 (.mov 49)]) (.seq (.keep [1,3,4]) (.seq (.reg [w 51 (.call (.k (.fn 158 [] [])) [(.k (.str [97])),(.k (.int .i64 2))]),p 50 (.mov 51),p 52 (.extr 0
 50),p 53 (.extr 1 50),p 54 (.extr 2 50),n 5 (.alloc 134 true [(.int .i64 0),(.int .i64 0),(.str [])]),w0 (.store 3 5 52),p 6 (.mov 53),p 7 (.mov 54)]) (.seq (.keep [1,3,4,
 6,7]) (.seq (.reg [w 56 (.call (.k (.fn 158 [] [])) [(.k (.str [32,37,32,120])),(.k (.int .i64 0))]),p 55 (.mov 56),p 57 (.extr 0 55),p 58 (.extr 1 55),p 59 (.extr 2 55),n
 8 (.alloc 134 true [(.int .i64 0),(.int .i64 0),(.str [])]),w0 (.store 3 8 57),p 9 (.mov 58),p 10 (.mov 59)]) (.seq (.keep [1,3,4,6,7,9,10]) (.seq (.reg [w 61 (.call (.k
 (.fn 173 [] [])) [(.k (.int .i64 1))]),w 62 (.call (.k (.fn 172 [] [])) [(.k (.str [97]))]),w 63 (.call (.k (.fn 171 [] [])) [(.k (.str [40]))]),n 64 (.buildSl 134 3 [(.int .i64
 0),(.int .i64 0),(.str []),(.int .i64 0),(.int .i64 0),(.str []),(.int .i64 0),(.int .i64 0),(.str [])] [(0,3,61),(3,3,62),(6,3,63)]),w 65 (.call (.k (.fn 165 [] []))
 [64]),p 60 (.mov 65),p 66 (.extr 0 60),p 67 (.extr 1 60),p 11 (.mov 66),p 12 (.mov 67)]) (.seq (.keep [1,3,4,6,7,9,10,11,12]) (.seq (.reg [w 69 (.call (.k (.fn 173 [] []))
 [(.k (.int .i64 128))]),w 70 (.call (.k (.fn 166 [] [])) [69]),p 68 (.mov 70),p 71 (.extr 0 68),p 72 (.extr 1 68),p 13 (.mov 71),p 14 (.mov 72)]) (.seq (.reg [w 74 (.call (.k
 (.fn 173 [] [])) [(.k (.int .i64 (-128)))]),w 75 (.call (.k (.fn 166 [] [])) [74]),p 73 (.mov 75),p 76 (.extr 0 73),p 77 (.extr 1 73),p 15 (.mov 76),p 16 (.mov 77)]) (.seq (.reg
 [p 78 (.mov 1),p 79 (.mov 78),pg 80 79 true (.mov 4),pg 81 79 true (.bin .eql 80 (.k (.int .i64 37))),p 82 (.pick 79 81 (.k (.bool false))),p 83 (.mov 82),pg 84 83 true (.mov
 3),pg 85 83 true (.bin .eql 84 (.k (.int .i64 2))),p 86 (.pick 83 85 (.k (.bool false))),p 87 (.mov 86),pg 88 87 true (.mov 7),pg 89 87 true (.bin .eql 88 (.k (.int .i64 2))),
 p 90 (.pick 87 89 (.k (.bool false))),p 91 (.mov 90),pg 92 91 true (.mov 6),pg 93 91 true (.bin .eql 92 (.k (.int .i64 0))),p 94 (.pick 91 93 (.k (.bool false))),p 95 (.mov 94),
 pg 96 95 true (.mov 10),pg 97 95 true (.bin .eql 96 (.k (.int .i64 4))),p 98 (.pick 95 97 (.k (.bool false))),p 99 (.mov 98),pg 100 99 true (.mov 9),pg 101 99 true (.bin .eql 100
 (.k (.int .i64 4))),p 102 (.pick 99 101 (.k (.bool false))),p 103 (.mov 102),pg 104 103 true (.mov 12),pg 105 103 true (.bin .eql 104 (.k (.int .i64 0))),p 106 (.pick 103 105 (.k
 (.bool false))),p 107 (.mov 106),pg 108 107 true (.mov 11),pg 109 107 true (.bin .eql 108 (.k (.str [49,32,97,32,40,92,40,41]))),p 110 (.pick 107 109 (.k (.bool false))),
 p 111 (.mov 110),pg 112 111 true (.mov 14),pg 113 111 true (.bin .eql 112 (.k (.int .i64 0))),p 114 (.pick 111 113 (.k (.bool false))),p 115 (.mov 114),pg 116 115 true (.mov 13),
 pg 117 115 true (.bin .eql 116 (.k (.str [130,0,128]))),p 118 (.pick 115 117 (.k (.bool false))),p 119 (.mov 118),pg 120 119 true (.mov 16),pg 121 119 true (.bin .eql 120 (.k
 (.int .i64 0))),p 122 (.pick 119 121 (.k (.bool false))),p 123 (.mov 122),pg 124 123 true (.mov 15),pg 125 123 true (.bin .eql 124 (.k (.str [129,128]))),p 126 (.pick 123 125
 (.k (.bool false))),p 1 (.mov 126)]) (.seq (.keep [1]) (.seq (.reg [p 127 (.mov 1),p 128 (.mov 127),wg 129 128 true (.call (.k (.fn 170 [] [])) [(.k (.str [49,32,62,32,50])),
 (.k (.int .i64 2)),(.k (.int .i64 37))]),p 130 (.pick 128 129 (.k (.bool false))),p 131 (.mov 130),wg 132 131 true (.call (.k (.fn 170 [] [])) [(.k (.str [60,52,103,62])),(.k
 (.int .i64 0)),(.k (.int .i64 37))]),p 133 (.pick 131 132 (.k (.bool false))),p 134 (.mov 133),wg 135 134 true (.call (.k (.fn 170 [] [])) [(.k (.str [137])),(.k (.int .i64 0)),
 (.k (.int .i64 37))]),p 136 (.pick 134 135 (.k (.bool false))),p 137 (.mov 136),wg 138 137 true (.call (.k (.fn 170 [] [])) [(.k (.str [132,5,97])),(.k (.int .i64 0)),(.k (.int
 .i64 37))]),p 139 (.pick 137 138 (.k (.bool false))),p 0 (.mov 139)]) .ret))))))))))))))))))))⟩
def scan_Next:MFun:=⟨2,[.cell 4 (some 3),.t 5,.t 6],(.seq (.reg [n 4 (.alloc 134 true [(.int .i64 0),(.int .i64 0),(.str [])]),p 5 (.mov (.k (.int .i64 0))),p 6 (.mov (.k
 (.int .i64 0)))]) (.seq (.seq (.reg [p 11 (.mov 0),p 12 (.lenOf true 11),p 13 (.bin .gtr 12 (.k (.int .i64 65536)))]) (.cond 13 (.seq (.reg [p 14 (.build [(.int .i64 0),(.int .i64
 0),(.str [])] []),w0 (.store 3 4 14),p 5 (.mov (.k (.int .i64 0))),p 6 (.mov (.k (.int .i64 3)))]) .ret) .skip)) (.seq (.seq (.reg [p 15 (.mov 1),p 16 (.bin .lss 15 (.k (.int .i64
 0))),p 17 (.mov 16),pg 18 17 false (.mov 1),pg 19 17 false (.mov 0),pg 20 17 false (.lenOf true 19),pg 21 17 false (.bin .gtr 18 20),p 22 (.pick 17 (.k (.bool true)) 21)]) (.seq
 (.keep [0,1,4,22]) (.cond 22 (.seq (.reg [p 23 (.build [(.int .i64 0),(.int .i64 0),(.str [])] []),w0 (.store 3 4 23),p 5 (.mov (.k (.int .i64 0))),p 6 (.mov (.k (.int .i64
 2)))]) .ret) .skip))) (.seq (.keep [0,1,4]) (.seq (.reg [p 24 (.mov 0),p 25 (.mov 1),p 26 (.build [(.str []),(.int .i64 0)] [(0,1,24),(1,1,25)]),p 27 (.build [(.str []),
 (.int .i64 0)] [(0,2,26)]),n 28 (.box 278 false 27),p 7 (.mov 28)]) (.seq (.reg [p 29 (.mov 7),w 30 (.call (.k (.fn 174 [] [])) [29])]) (.seq (.seq (.reg [p 31 (.mov 7),p 32 (.nilck
 31),p 33 (.faddr 0 32),p 34 (.faddr 1 33),r 35 (.load none 34),p 36 (.mov 0),p 37 (.lenOf true 36),p 38 (.bin .eql 35 37)]) (.seq (.keep [4,7,38]) (.cond 38 (.seq (.regd [.op
 1 (p 40 (.mov 7)),.op 2 (p 41 (.nilck 40)),.op 3 (p 42 (.faddr 0 41)),.op 4 (p 43 (.faddr 1 42)),.op 5 (r 44 (.load none 43)),.op 0 (p 39 (.build [(.int .i64 0),(.int .i64 0),
 (.str [])] [])),.op 6 (w0 (.store 3 4 39)),.re 5,.op 7 (p 5 (.mov 44)),.op 8 (p 6 (.mov (.k (.int .i64 4))))]) .ret) .skip))) (.seq (.keep [4,7]) (.seq (.reg [p 46 (.mov 7),w
 47 (.call (.k (.fn 175 [] [])) [46]),p 45 (.mov 47),p 48 (.extr 0 45),p 49 (.extr 1 45),p 50 (.extr 2 45),n 8 (.alloc 134 true [(.int .i64 0),(.int .i64 0),(.str [])]),w0 (.store
 3 8 48),p 9 (.mov 49),p 10 (.mov 50)]) (.seq (.keep [4,7,8,9,10]) (.seq (.regd [.op 0 (r 51 (.load (some 3) 8)),.op 1 (p 52 (.mov 7)),.op 2 (p 53 (.nilck 52)),.op 3 (p 54 (.faddr
 0 53)),.op 4 (p 55 (.faddr 1 54)),.op 5 (r 56 (.load none 55)),.op 9 (w0 (.store 3 4 51)),.re 5,.op 6 (p 57 (.mov 9)),.op 7 (p 58 (.bin .add 56 57)),.op 8 (p 59 (.mov 10)),.op
 10 (p 5 (.mov 58)),.op 11 (p 6 (.mov 59))]) .ret)))))))))))⟩
def chaseref04_Next:MFun:=⟨2,[.cell 4 (some 3),.t 5,.t 6],(.seq (.reg [n 4 (.alloc 134 true [(.int .i64 0),(.int .i64 0),(.str [])]),p 5 (.mov (.k (.int .i64 0))),p 6 (.mov
 (.k (.int .i64 0)))]) (.seq (.seq (.reg [p 11 (.mov 0),p 12 (.lenOf true 11),p 13 (.bin .gtr 12 (.k (.int .i64 65536)))]) (.cond 13 (.seq (.reg [p 14 (.build [(.int .i64 0),(.int
 .i64 0),(.str [])] []),w0 (.store 3 4 14),p 5 (.mov (.k (.int .i64 0))),p 6 (.mov (.k (.int .i64 3)))]) .ret) .skip)) (.seq (.seq (.reg [p 15 (.mov 1),p 16 (.bin .lss 15 (.k (.int
 .i64 0))),p 17 (.mov 16),pg 18 17 false (.mov 1),pg 19 17 false (.mov 0),pg 20 17 false (.lenOf true 19),pg 21 17 false (.bin .gtr 18 20),p 22 (.pick 17 (.k (.bool true)) 21)])
 (.seq (.keep [0,1,4,22]) (.cond 22 (.seq (.reg [p 23 (.build [(.int .i64 0),(.int .i64 0),(.str [])] []),w0 (.store 3 4 23),p 5 (.mov (.k (.int .i64 0))),p 6 (.mov (.k (.int
 .i64 2)))]) .ret) .skip))) (.seq (.keep [0,1,4]) (.seq (.reg [p 24 (.mov 0),p 25 (.mov 1),w 26 (.call (.k (.fn 176 [] [])) [24,25]),p 7 (.mov 26)]) (.seq (.seq (.reg [p 27 (.mov
 7),p 28 (.mov 0),p 29 (.lenOf true 28),p 30 (.bin .eql 27 29)]) (.cond 30 (.seq (.reg [p 31 (.build [(.int .i64 0),(.int .i64 0),(.str [])] []),p 32 (.mov 7),w0 (.store 3 4 31),
 p 5 (.mov 32),p 6 (.mov (.k (.int .i64 4)))]) .ret) .skip)) (.seq (.keep [0,4,7]) (.seq (.reg [p 34 (.mov 0),p 35 (.mov 7),w 36 (.call (.k (.fn 177 [] [])) [34,35]),p 33 (.mov
 36),p 37 (.extr 0 33),p 38 (.extr 1 33),p 39 (.extr 2 33),n 8 (.alloc 134 true [(.int .i64 0),(.int .i64 0),(.str [])]),w0 (.store 3 8 37),p 9 (.mov 38),p 10 (.mov 39)]) (.seq
 (.keep [4,7,8,9,10]) (.seq (.seq (.reg [p 40 (.mov 10),p 41 (.bin .neq 40 (.k (.int .i64 0)))]) (.cond 41 (.seq (.reg [p 42 (.build [(.int .i64 0),(.int .i64 0),(.str [])] []),
 p 43 (.mov 7),p 44 (.mov 10),w0 (.store 3 4 42),p 5 (.mov 43),p 6 (.mov 44)]) .ret) .skip)) (.seq (.keep [4,8,9]) (.seq (.reg [r 45 (.load (some 3) 8),p 46 (.mov 9),w0 (.store
 3 4 45),p 5 (.mov 46),p 6 (.mov (.k (.int .i64 0)))]) .ret))))))))))))⟩
def scan_All_l0:MCode:=(.block 1 (.seq (.regd [.op 0 (p 12 (.faddr 3 8)),.op 1 (r 13 (.load none 12)),.op 2 (p 14 (.faddr 4 8)),.op 3 (r 15 (.load none 14)),.op 4 (w0 (.store
 1 6 13)),.re 3,.op 5 (w0 (.store 1 7 15))]) (.seq (.reg [r 16 (.load none 7)]) (.block 2 (.seq (.reg [p 18 (.bin .eql 16 (.k (.int .i64 0))),p 17 (.mov 18)]) (.cond 17 (.reg [r 19
 (.load none 5),p 20 (.faddr 0 8),r 21 (.load (some 3) 20),n 22 (.buildSl 134 1 [(.int .i64 0),(.int .i64 0),(.str [])] [(0,3,21)]),w 23 (.append 134 3 32 [(.int .i64 0),(.int
 .i64 0),(.str [])] 19 22),w0 (.store 1 5 23)]) (.exit 0)))))))
def scan_All:MFun:=⟨1,[.t 2,.t 3,.t 4],(.seq (.reg [p 2 (.mov (.k .nilslice)),p 3 (.mov (.k (.int .i64 0))),p 4 (.mov (.k (.int .i64 0)))]) (.scope (.seq (.reg [n 5 (.alloc
 146 true [.nilslice])]) (.seq (.reg [n 6 (.alloc 3 true [(.int .i64 0)]),n 7 (.alloc 30 true [(.int .i64 0)]),w0 (.store 1 6 (.k (.int .i64 0))),w0 (.store 1 7 (.k (.int .i64 0)))])
 (.seq .skip (.seq (.seq (.reg [p 9 (.mov 0),w 10 (.call (.k (.fn 178 [] [])) [9])]) (.block 0 (.rangeFunc 10 [11] (.reg [n 8 (.alloc 284 true [(.int .i64 0),(.int .i64 0),(.str []),
 (.int .i64 0),(.int .i64 0)]),w0 (.store 5 8 11)]) scan_All_l0))) (.seq (.keep [5,6,7]) (.seq (.seq (.reg [r 24 (.load none 7),p 25 (.bin .neq 24 (.k (.int .i64 4)))]) (.cond 25
 (.seq (.regd [.op 0 (r 26 (.load none 6)),.op 1 (r 27 (.load none 7)),.op 2 (p 2 (.mov (.k .nilslice))),.op 3 (p 3 (.mov 26)),.op 4 (p 4 (.mov 27))]) .ret) .skip)) (.seq (.regd
 [.op 0 (r 28 (.load none 5)),.op 1 (r 29 (.load none 6)),.op 2 (p 2 (.mov 28)),.op 3 (p 3 (.mov 29)),.op 4 (p 4 (.mov (.k (.int .i64 0))))]) .ret)))))))))⟩
def chaseref04_Same_l0:MCode:=(.seq (.keep [0,1,5]) (.seq (.seq (.reg [p 11 (.mov 5),p 12 (.mov 0),p 13 (.lenOf false 12),p 14 (.bin .lss 11 13)]) (.cond 14 .skip (.exit 0)))
 (.seq (.block 1 (.seq (.regd [.op 0 (p 17 (.mov 0)),.op 1 (p 18 (.mov 5)),.op 2 (p 19 (.iaddrS 3 17 18)),.op 3 (r 20 (.load (some 3) 19)),.op 4 (p 21 (.mov 1)),.op 5 (p 22 (.mov
 5)),.op 6 (p 23 (.iaddrS 3 21 22)),.op 7 (r 24 (.load (some 3) 23)),.op 8 (p 25 (.eqA true [(.i .i64),(.i .i64),.s] 20 24))]) (.seq (.keep [0,1,5,25]) (.cond 25 (.seq (.reg
 [p 4 (.mov (.k (.bool false)))]) .ret) .skip)))) (.seq (.keep [0,1,5]) (.reg [p 15 (.mov 5),p 16 (.bin .add 15 (.k (.int .i64 1))),p 5 (.mov 16)])))))
def chaseref04_Same:MFun:=⟨2,[.t 4],(.seq (.reg [p 4 (.mov (.k (.bool false)))]) (.seq (.seq (.reg [p 6 (.mov 0),p 7 (.lenOf false 6),p 8 (.mov 1),p 9 (.lenOf false 8),p 10
 (.bin .neq 7 9)]) (.cond 10 (.seq (.reg [p 4 (.mov (.k (.bool false)))]) .ret) .skip)) (.seq (.seq (.reg [p 5 (.mov (.k (.int .i64 0)))]) (.block 0 (.loop chaseref04_Same_l0))) (.seq
 (.keep []) (.seq (.reg [p 4 (.mov (.k (.bool true)))]) .ret)))))⟩
def scan_Print_l0:MCode:=(.seq (.keep [4,9,10,11]) (.seq (.reg [p 12 (.bin .lss 11 10)]) (.seq (.cond 12 .skip (.exit 0)) (.seq (.block 1 (.seq (.reg [p 13 (.iaddrS 3 9 11),
 r 14 (.load (some 3) 13),n 6 (.alloc 134 true [(.int .i64 0),(.int .i64 0),(.str [])]),w0 (.store 3 6 14)]) (.seq (.reg [r 16 (.load (some 3) 6),w 17 (.call (.k (.fn 128 [] []))
 [16]),p 15 (.mov 17),p 18 (.extr 0 15),p 19 (.extr 1 15),p 7 (.mov 18),p 8 (.mov 19)]) (.seq (.seq (.reg [p 20 (.mov 8),p 21 (.bin .neq 20 (.k (.int .i64 0)))]) (.cond 21 (.seq
 (.reg [p 22 (.mov 8),p 2 (.mov (.k (.str []))),p 3 (.mov 22)]) .ret) .skip)) (.reg [p 23 (.mov 4),p 24 (.mov 7),n 25 (.buildSl 9 1 [(.str [])] [(0,1,24)]),w 26 (.append 9 1 16
 [(.str [])] 23 25),p 4 (.mov 26)]))))) (.seq (.keep [4,9,10,11]) (.reg [p 27 (.bin .add 11 (.k (.int .i64 1))),p 11 (.mov 27)]))))))
def scan_Print:MFun:=⟨1,[.t 2,.t 3],(.seq (.reg [p 2 (.mov (.k (.str []))),p 3 (.mov (.k (.int .i64 0)))]) (.seq (.reg [p 4 (.mov (.k .nilslice))]) (.seq (.seq (.reg [p 9 (.mov
 0),p 10 (.lenOf false 9),p 11 (.mov (.k (.int .i64 0)))]) (.block 0 (.loop scan_Print_l0))) (.seq (.keep [4]) (.seq (.reg [p 28 (.mov 4),w 29 (.call (.k (.fn 179 [] [])) [28,(.k
 (.str [32]))]),p 2 (.mov 29),p 3 (.mov (.k (.int .i64 0)))]) .ret)))))⟩
def scan_Pack:MFun:=⟨1,[.t 2,.t 3],(.seq (.reg [n 1 (.box 134 true 0),p 2 (.mov (.k (.str []))),p 3 (.mov (.k (.int .i64 0)))]) (.seq (.seq (.reg [r 6 (.load (some 3) 1),w
 7 (.call (.k (.fn 74 [] [])) [6]),p 4 (.mov 7)]) (.seq (.reg [p 8 (.mov 4),p 9 (.bin .neq 8 (.k (.int .i64 0)))]) (.cond 9 (.seq (.reg [p 10 (.mov 4),p 2 (.mov (.k (.str []))),p
 3 (.mov 10)]) .ret) .skip))) (.seq (.keep [1]) (.seq (.reg [p 11 (.faddr 2 1),r 12 (.load none 11),p 13 (.lenOf true 12),p 5 (.mov 13)]) (.seq (.seq (.reg [p 14 (.faddr 0 1),r 15
 (.load none 14)]) (.block 0 (.seq (.reg [p 17 (.bin .eql 15 (.k (.int .i64 1))),p 16 (.mov 17)]) (.cond 16 (.seq (.block 1 (.seq (.reg [p 19 (.faddr 1 1),r 20 (.load none 19),p 21
 (.bin .geq 20 (.k (.int .i64 (-128)))),p 22 (.mov 21),pg 23 22 true (.faddr 1 1),rg 24 22 true (.load none 23),pg 25 22 true (.bin .lss 24 (.k (.int .i64 128))),p 26 (.pick 22
 25 (.k (.bool false))),p 18 (.mov 26)]) (.seq (.keep [1,18]) (.cond 18 (.seq (.reg [p 27 (.faddr 1 1),r 28 (.load none 27),w 29 (.call (.k (.fn 180 [] [])) [(.k (.int .u8 129)),
 28,(.k (.int .i64 1)),(.k (.str []))]),p 2 (.mov 29),p 3 (.mov (.k (.int .i64 0)))]) .ret) (.seq (.reg [p 31 (.faddr 1 1),r 32 (.load none 31),p 33 (.bin .geq 32 (.k (.int .i64
 (-32768)))),p 34 (.mov 33),pg 35 34 true (.faddr 1 1),rg 36 34 true (.load none 35),pg 37 34 true (.bin .lss 36 (.k (.int .i64 32768))),p 38 (.pick 34 37 (.k (.bool false))),p
 30 (.mov 38)]) (.seq (.keep [1,30]) (.cond 30 (.seq (.reg [p 39 (.faddr 1 1),r 40 (.load none 39),w 41 (.call (.k (.fn 180 [] [])) [(.k (.int .u8 130)),40,(.k (.int .i64 2)),(.k
 (.str []))]),p 2 (.mov 41),p 3 (.mov (.k (.int .i64 0)))]) .ret) .skip))))))) (.seq (.keep [1]) (.seq (.reg [p 42 (.faddr 1 1),r 43 (.load none 42),w 44 (.call (.k (.fn 180 [] []))
 [(.k (.int .u8 128)),43,(.k (.int .i64 4)),(.k (.str []))]),p 2 (.mov 44),p 3 (.mov (.k (.int .i64 0)))]) .ret))) (.seq (.reg [p 46 (.bin .eql 15 (.k (.int .i64 2))),p 45 (.mov
 46)]) (.cond 45 (.seq (.seq (.reg [p 47 (.faddr 1 1),r 48 (.load none 47),p 49 (.bin .gtr 48 (.k (.int .i64 2147483647)))]) (.cond 49 (.seq (.reg [p 2 (.mov (.k (.str []))),p 3 (.mov
 (.k (.int .i64 6)))]) .ret) .skip)) (.seq (.reg [p 50 (.faddr 1 1),r 51 (.load none 50),w 52 (.call (.k (.fn 180 [] [])) [(.k (.int .u8 131)),51,(.k (.int .i64 4)),(.k (.str []))]),
 p 2 (.mov 52),p 3 (.mov (.k (.int .i64 0)))]) .ret)) (.seq (.reg [p 54 (.bin .eql 15 (.k (.int .i64 6))),p 53 (.mov 54)]) (.cond 53 (.seq (.seq (.reg [p 55 (.mov 5),p 56 (.bin .lss
 55 (.k (.int .i64 256)))]) (.cond 56 (.seq (.reg [p 57 (.mov 5),p 58 (.faddr 2 1),r 59 (.load none 58),w 60 (.call (.k (.fn 180 [] [])) [(.k (.int .u8 132)),57,(.k (.int .i64 1)),
 59]),p 2 (.mov 60),p 3 (.mov (.k (.int .i64 0)))]) .ret) .skip)) (.seq (.keep [1,5]) (.seq (.reg [p 61 (.mov 5),p 62 (.faddr 2 1),r 63 (.load none 62),w 64 (.call (.k (.fn 180
 [] [])) [(.k (.int .u8 133)),61,(.k (.int .i64 2)),63]),p 2 (.mov 64),p 3 (.mov (.k (.int .i64 0)))]) .ret))) (.seq (.reg [p 66 (.bin .eql 15 (.k (.int .i64 4))),p 65 (.mov 66)])
 (.cond 65 (.seq (.reg [p 67 (.mov 5),p 68 (.faddr 2 1),r 69 (.load none 68),w 70 (.call (.k (.fn 180 [] [])) [(.k (.int .u8 134)),67,(.k (.int .i64 1)),69]),p 2 (.mov 70),p
 3 (.mov (.k (.int .i64 0)))]) .ret) (.seq (.reg [p 72 (.bin .eql 15 (.k (.int .i64 3))),p 71 (.mov 72)]) (.cond 71 (.seq (.reg [p 73 (.mov 5),p 74 (.faddr 2 1),r 75 (.load none 74),
 w 76 (.call (.k (.fn 180 [] [])) [(.k (.int .u8 135)),73,(.k (.int .i64 1)),75]),p 2 (.mov 76),p 3 (.mov (.k (.int .i64 0)))]) .ret) (.seq (.reg [p 78 (.bin .eql 15 (.k (.int .i64
 5))),p 77 (.mov 78)]) (.cond 77 (.seq (.reg [p 79 (.mov 5),p 80 (.faddr 2 1),r 81 (.load none 80),w 82 (.call (.k (.fn 180 [] [])) [(.k (.int .u8 136)),79,(.k (.int .i64 1)),
 81]),p 2 (.mov 82),p 3 (.mov (.k (.int .i64 0)))]) .ret) .skip)))))))))))))) (.seq (.keep [1]) (.seq (.reg [r 83 (.load (some 3) 1),w 84 (.call (.k (.fn 128 [] [])) [83]),p 85 (.extr
 0 84),p 86 (.extr 1 84),p 2 (.mov 85),p 3 (.mov 86)]) .ret)))))))⟩
def chaselaw04_reads:MFun:=⟨2,[.t 4],(.seq (.reg [p 4 (.mov (.k (.bool false)))]) (.seq (.reg [p 9 (.mov 0),w 10 (.call (.k (.fn 162 [] [])) [9]),p 8 (.mov 10),p 11 (.extr
 0 8),p 12 (.extr 1 8),p 13 (.extr 2 8),p 5 (.mov 11),p 6 (.mov 12),p 7 (.mov 13)]) (.seq (.keep [0,1,5,6,7]) (.seq (.reg [p 14 (.mov 7),p 15 (.bin .eql 14 (.k (.int .i64 0))),
 p 16 (.mov 15),pg 17 16 true (.mov 6),pg 18 16 true (.mov 0),pg 19 16 true (.lenOf true 18),pg 20 16 true (.bin .eql 17 19),p 21 (.pick 16 20 (.k (.bool false))),p 22 (.mov 21),
 pg 23 22 true (.mov 5),pg 24 22 true (.mov 1),wg 25 22 true (.call (.k (.fn 164 [] [])) [23,24]),p 26 (.pick 22 25 (.k (.bool false))),p 4 (.mov 26)]) .ret))))⟩
def strings_Builder_WriteString:MFun:=⟨2,[.t 4,.t 5],(.seq (.reg [p 4 (.mov (.k (.int .i64 0))),p 5 (.mov (.k .niliface))]) (.seq (.reg [p 6 (.mov 0),w 7 (.call (.k (.fn 109
 [] [])) [6])]) (.seq (.reg [p 8 (.mov 0),p 9 (.mov 0),p 10 (.nilck 9),p 11 (.faddr 1 10),r 12 (.load none 11),p 13 (.mov 1),w 14 (.append 5 1 1 [(.int .u8 0)] 12 13),p 15 (.nilck
 8),p 16 (.faddr 1 15),w0 (.store 1 16 14)]) (.seq (.keep [1]) (.seq (.reg [p 17 (.mov 1),p 18 (.lenOf true 17),p 4 (.mov 18),p 5 (.mov (.k .niliface))]) .ret)))))⟩
def chaselaw04_fails:MFun:=⟨3,[.t 6],(.seq (.reg [p 6 (.mov (.k (.bool false)))]) (.seq (.reg [p 11 (.mov 0),w 12 (.call (.k (.fn 162 [] [])) [11]),p 10 (.mov 12),p 13 (.extr
 0 10),p 14 (.extr 1 10),p 15 (.extr 2 10),p 7 (.mov 13),p 8 (.mov 14),p 9 (.mov 15)]) (.seq (.keep [1,2,7,8,9]) (.seq (.reg [p 16 (.mov 9),p 17 (.mov 2),p 18 (.bin .eql 16
 17),p 19 (.mov 18),pg 20 19 true (.mov 8),pg 21 19 true (.mov 1),pg 22 19 true (.bin .eql 20 21),p 23 (.pick 19 22 (.k (.bool false))),p 24 (.mov 23),pg 25 24 true (.mov 7),
 pg 26 24 true (.lenOf false 25),pg 27 24 true (.bin .eql 26 (.k (.int .i64 0))),p 28 (.pick 24 27 (.k (.bool false))),p 6 (.mov 28)]) .ret))))⟩
def chaselaw04_text:MFun:=⟨1,[.cell 2 (some 3)],(.seq (.reg [n 2 (.alloc 134 true [(.int .i64 0),(.int .i64 0),(.str [])])]) (.seq (.reg [p 3 (.mov 0),p 4 (.build [(.int .i64
 0),(.int .i64 0),(.str [])] [(0,1,(.k (.int .i64 6))),(2,1,3)]),w0 (.store 3 2 4)]) .ret))⟩
def chaselaw04_name:MFun:=⟨1,[.cell 2 (some 3)],(.seq (.reg [n 2 (.alloc 134 true [(.int .i64 0),(.int .i64 0),(.str [])])]) (.seq (.reg [p 3 (.mov 0),p 4 (.build [(.int .i64
 0),(.int .i64 0),(.str [])] [(0,1,(.k (.int .i64 3))),(2,1,3)]),w0 (.store 3 2 4)]) .ret))⟩
def chaselaw04_number:MFun:=⟨1,[.cell 2 (some 3)],(.seq (.reg [n 2 (.alloc 134 true [(.int .i64 0),(.int .i64 0),(.str [])])]) (.seq (.reg [p 3 (.mov 0),p 4 (.build [(.int
 .i64 0),(.int .i64 0),(.str [])] [(0,1,(.k (.int .i64 1))),(1,1,3)]),w0 (.store 3 2 4)]) .ret))⟩
def scan_reader_skip_l0:MCode:=(.seq (.keep [0]) (.block 1 (.seq (.regd [.op 0 (p 2 (.mov 0)),.op 1 (p 3 (.nilck 2)),.op 2 (p 4 (.faddr 0 3)),.op 3 (p 5 (.faddr 1 4)),.op 4
 (r 6 (.load none 5)),.op 5 (p 7 (.mov 0)),.op 6 (p 8 (.nilck 7)),.op 7 (p 9 (.faddr 0 8)),.op 8 (p 10 (.faddr 0 9)),.op 9 (r 11 (.load none 10)),.op 10 (p 12 (.mov 0)),.op 11
 (p 13 (.nilck 12)),.op 12 (p 14 (.faddr 0 13)),.op 13 (p 15 (.faddr 1 14)),.op 14 (r 16 (.load none 15)),.op 15 (p 17 (.subS 11 (some 16) none)),.op 16 (w 18 (.call (.k (.fn 182
 [] [])) [17,(.k (.fn 183 [] []))])),.re 4,.op 17 (p 19 (.bin .add 6 18)),.op 18 (p 20 (.nilck 2)),.op 19 (p 21 (.faddr 0 20)),.op 20 (p 22 (.faddr 1 21)),.op 21 (w0 (.store 1
 22 19))]) (.seq (.keep [0]) (.seq (.seq (.regd [.op 0 (p 23 (.mov 0)),.op 1 (p 24 (.nilck 23)),.op 2 (p 25 (.faddr 0 24)),.op 3 (p 26 (.faddr 1 25)),.op 4 (r 27 (.load none 26)),
 .op 5 (p 28 (.mov 0)),.op 6 (p 29 (.nilck 28)),.op 7 (p 30 (.faddr 0 29)),.op 8 (p 31 (.faddr 0 30)),.op 9 (r 32 (.load none 31)),.op 10 (p 33 (.lenOf true 32)),.op 11 (p 34 (.bin
 .eql 27 33)),.op 12 (p 35 (.mov 34)),.op 13 (pg 36 35 false (.mov 0)),.op 14 (pg 37 35 false (.nilck 36)),.op 15 (pg 38 35 false (.faddr 0 37)),.op 16 (pg 39 35 false (.faddr 0
 38)),.op 17 (rg 40 35 false (.load none 39)),.op 18 (pg 41 35 false (.mov 0)),.op 19 (pg 42 35 false (.nilck 41)),.op 20 (pg 43 35 false (.faddr 0 42)),.op 21 (pg 44 35 false (.faddr
 1 43)),.op 22 (rg 45 35 false (.load none 44)),.op 23 (pg 46 35 false (.idxS 40 45)),.op 24 (pg 47 35 false (.bin .neq 46 (.k (.int .u8 37)))),.op 25 (p 48 (.pick 35 (.k (.bool
 true)) 47))]) (.cond 48 .ret .skip)) (.seq (.keep [0]) (.regd [.op 0 (p 49 (.mov 0)),.op 1 (p 50 (.nilck 49)),.op 2 (p 51 (.faddr 0 50)),.op 3 (p 52 (.faddr 1 51)),.op 4 (r 53 (.load
 none 52)),.op 5 (p 54 (.mov 0)),.op 6 (p 55 (.nilck 54)),.op 7 (p 56 (.faddr 0 55)),.op 8 (p 57 (.faddr 0 56)),.op 9 (r 58 (.load none 57)),.op 10 (p 59 (.mov 0)),.op 11 (p 60
 (.nilck 59)),.op 12 (p 61 (.faddr 0 60)),.op 13 (p 62 (.faddr 1 61)),.op 14 (r 63 (.load none 62)),.op 15 (p 64 (.subS 58 (some 63) none)),.op 16 (w 65 (.call (.k (.fn 182 [] []))
 [64,(.k (.fn 184 [] []))])),.re 4,.op 17 (p 66 (.bin .add 53 65)),.op 18 (p 67 (.nilck 49)),.op 19 (p 68 (.faddr 0 67)),.op 20 (p 69 (.faddr 1 68)),.op 21 (w0 (.store 1 69 66))])))))))
def scan_reader_skip:MFun:=⟨1,[],(.block 0 (.loop scan_reader_skip_l0))⟩
def scan_reader_token:MFun:=⟨1,[.cell 2 (some 3),.t 3,.t 4],(.seq (.reg [n 2 (.alloc 134 true [(.int .i64 0),(.int .i64 0),(.str [])]),p 3 (.mov (.k (.int .i64 0))),p 4
 (.mov (.k (.int .i64 0)))]) (.seq (.regd [.op 0 (p 11 (.mov 0)),.op 1 (p 12 (.nilck 11)),.op 2 (p 13 (.faddr 0 12)),.op 3 (p 14 (.faddr 0 13)),.op 4 (r 15 (.load none 14)),.op
 5 (p 16 (.mov 0)),.op 6 (p 17 (.nilck 16)),.op 7 (p 18 (.faddr 0 17)),.op 8 (p 19 (.faddr 1 18)),.op 9 (r 20 (.load none 19)),.op 10 (p 21 (.idxS 15 20)),.op 11 (p 5 (.mov 21))])
 (.seq (.keep [0,2,5]) (.seq (.seq (.reg [w 23 (.call (.k (.fn 185 [] [])) []),p 24 (.mov 5),r 25 (.lookup (.i .u8) .nilfn true 23 24),p 22 (.mov 25),p 26 (.extr 0 22),p 27 (.extr
 1 22),p 6 (.mov 26),p 7 (.mov 27)]) (.seq (.keep [0,2,5,6,7]) (.seq (.reg [p 28 (.mov 7)]) (.cond 28 (.seq (.reg [p 29 (.mov 6),p 30 (.mov 0),w 31 (.call 29 [30]),p 32 (.extr
 0 31),p 33 (.extr 1 31),p 34 (.extr 2 31),w0 (.store 3 2 32),p 3 (.mov 33),p 4 (.mov 34)]) .ret) .skip)))) (.seq (.keep [0,2,5]) (.seq (.seq (.reg [p 35 (.mov 5),p 36 (.bin
 .geq 35 (.k (.int .u8 128))),p 37 (.mov 36),pg 38 37 true (.mov 5),pg 39 37 true (.bin .lss 38 (.k (.int .u8 160))),p 40 (.pick 37 39 (.k (.bool false)))]) (.cond 40 (.seq (.reg
 [p 41 (.mov 0),w 42 (.call (.k (.fn 186 [] [])) [41]),p 43 (.extr 0 42),p 44 (.extr 1 42),p 45 (.extr 2 42),w0 (.store 3 2 43),p 3 (.mov 44),p 4 (.mov 45)]) .ret) .skip)) (.seq
 (.keep [0,2]) (.seq (.regd [.op 0 (p 46 (.mov 0)),.op 1 (p 47 (.nilck 46)),.op 2 (p 48 (.faddr 0 47)),.op 3 (p 49 (.faddr 0 48)),.op 4 (r 50 (.load none 49)),.op 5 (p 51 (.mov
 0)),.op 6 (p 52 (.nilck 51)),.op 7 (p 53 (.faddr 0 52)),.op 8 (p 54 (.faddr 1 53)),.op 9 (r 55 (.load none 54)),.op 10 (p 56 (.subS 50 (some 55) none)),.op 11 (w 57 (.call (.k
 (.fn 182 [] [])) [56,(.k (.fn 67 [] []))])),.op 12 (p 8 (.mov 57))]) (.seq (.keep [0,2,8]) (.seq (.regd [.op 0 (p 59 (.mov 0)),.op 1 (p 60 (.nilck 59)),.op 2 (p 61 (.faddr 0 60)),
 .op 3 (p 62 (.faddr 0 61)),.op 4 (r 63 (.load none 62)),.op 5 (p 64 (.mov 0)),.op 6 (p 65 (.nilck 64)),.op 7 (p 66 (.faddr 0 65)),.op 8 (p 67 (.faddr 1 66)),.op 9 (r 68 (.load
 none 67)),.op 10 (p 69 (.mov 0)),.op 11 (p 70 (.nilck 69)),.op 12 (p 71 (.faddr 0 70)),.op 13 (p 72 (.faddr 1 71)),.op 14 (r 73 (.load none 72)),.op 15 (p 74 (.mov 8)),.op 16
 (p 75 (.bin .add 73 74)),.op 17 (p 76 (.subS 63 (some 68) (some 75))),.op 18 (w 77 (.call (.k (.fn 65 [] [])) [76])),.op 19 (p 58 (.mov 77)),.op 20 (p 78 (.extr 0 58)),.op 22 (n
 9 (.alloc 134 true [(.int .i64 0),(.int .i64 0),(.str [])])),.op 23 (w0 (.store 3 9 78)),.op 21 (p 79 (.extr 1 58)),.op 24 (p 10 (.mov 79))]) (.seq (.keep [2,8,9,10]) (.seq
 (.seq (.reg [p 80 (.mov 10),p 81 (.bin .neq 80 (.k (.int .i64 0)))]) (.cond 81 (.seq (.reg [p 82 (.build [(.int .i64 0),(.int .i64 0),(.str [])] []),p 83 (.mov 10),w0 (.store 3
 2 82),p 3 (.mov (.k (.int .i64 0))),p 4 (.mov 83)]) .ret) .skip)) (.seq (.reg [r 84 (.load (some 3) 9),p 85 (.mov 8),w0 (.store 3 2 84),p 3 (.mov 85),p 4 (.mov (.k (.int .i64
 0)))]) .ret)))))))))))))⟩
def chaseref04_skip_l0:MCode:=(.seq (.keep [0,1,5]) (.seq (.seq (.reg [p 6 (.mov 1),p 7 (.mov 0),p 8 (.lenOf true 7),p 9 (.bin .lss 6 8)]) (.cond 9 .skip (.exit 0))) (.block
 1 (.seq (.block 2 (.seq (.reg [p 12 (.mov 5),p 13 (.mov 12),pg 14 13 true (.mov 0),pg 15 13 true (.mov 1),pg 16 13 true (.idxS 14 15),pg 17 13 true (.bin .eql 16 (.k (.int .u8
 10))),pg 18 13 true (.mov 17),pg 19 18 false (.mov 0),pg 20 18 false (.mov 1),pg 21 18 false (.idxS 19 20),pg 22 18 false (.bin .eql 21 (.k (.int .u8 13))),pg 23 13 true (.pick
 18 (.k (.bool true)) 22),p 24 (.pick 13 23 (.k (.bool false))),p 11 (.mov 24)]) (.seq (.keep [0,1,5,11]) (.cond 11 (.reg [p 5 (.mov (.k (.bool false)))]) (.seq (.reg [p 26 (.mov
 5),p 27 (.mov 26),pg 28 27 false (.mov 0),pg 29 27 false (.mov 1),pg 30 27 false (.idxS 28 29),wg 31 27 false (.call (.k (.fn 85 [] [])) [30]),p 32 (.pick 27 (.k (.bool true))
 31),p 25 (.mov 32)]) (.seq (.keep [0,1,5,25]) (.cond 25 .skip (.seq (.reg [p 34 (.mov 0),p 35 (.mov 1),p 36 (.idxS 34 35),p 37 (.bin .eql 36 (.k (.int .u8 37))),p 33 (.mov 37)])
 (.cond 33 (.reg [p 5 (.mov (.k (.bool true)))]) (.seq (.reg [p 10 (.mov 1),p 4 (.mov 10)]) .ret)))))))))) (.seq (.keep [0,1,5]) (.reg [p 38 (.mov 1),p 39 (.bin .add 38 (.k (.int
 .i64 1))),p 1 (.mov 39)]))))))
def chaseref04_skip:MFun:=⟨2,[.t 4],(.seq (.reg [p 4 (.mov (.k (.int .i64 0)))]) (.seq (.reg [p 5 (.mov (.k (.bool false)))]) (.seq (.block 0 (.loop chaseref04_skip_l0)) (.seq
 (.keep [1]) (.seq (.reg [p 40 (.mov 1),p 4 (.mov 40)]) .ret)))))⟩
def chaseref04_token:MFun:=⟨2,[.cell 4 (some 3),.t 5,.t 6],(.seq (.reg [n 4 (.alloc 134 true [(.int .i64 0),(.int .i64 0),(.str [])]),p 5 (.mov (.k (.int .i64 0))),p 6 (.mov
 (.k (.int .i64 0)))]) (.seq (.reg [p 7 (.mov (.k (.int .u8 0)))]) (.seq (.seq (.reg [p 20 (.mov 1),p 21 (.bin .add 20 (.k (.int .i64 1))),p 22 (.mov 0),p 23 (.lenOf true 22),p 24
 (.bin .lss 21 23)]) (.cond 24 (.reg [p 25 (.mov 0),p 26 (.mov 1),p 27 (.bin .add 26 (.k (.int .i64 1))),p 28 (.idxS 25 27),p 7 (.mov 28)]) .skip)) (.seq (.keep [0,1,4,7]) (.seq
 (.seq (.reg [p 29 (.mov 0),p 30 (.mov 1),p 31 (.idxS 29 30),p 8 (.mov 31)]) (.block 0 (.seq (.reg [p 33 (.mov 8),p 34 (.bin .eql 33 (.k (.int .u8 40))),p 32 (.mov 34)]) (.cond
 32 (.seq (.reg [p 36 (.mov 0),p 37 (.mov 1),p 38 (.subS 36 (some 37) none),w 39 (.call (.k (.fn 70 [] [])) [38]),p 35 (.mov 39),p 40 (.extr 0 35),p 41 (.extr 1 35),p 42 (.extr
 2 35),p 9 (.mov 40),p 10 (.mov 41),p 11 (.mov 42)]) (.seq (.keep [1,4,9,10,11]) (.seq (.seq (.reg [p 43 (.mov 11),p 44 (.bin .eql 43 (.k (.int .i64 5)))]) (.cond 44 (.reg [p
 11 (.mov (.k (.int .i64 37)))]) .skip)) (.seq (.seq (.reg [p 45 (.mov 11),p 46 (.bin .neq 45 (.k (.int .i64 0)))]) (.cond 46 (.seq (.reg [p 47 (.build [(.int .i64 0),(.int .i64 0),
 (.str [])] []),p 48 (.mov 11),w0 (.store 3 4 47),p 5 (.mov (.k (.int .i64 0))),p 6 (.mov 48)]) .ret) .skip)) (.seq (.reg [p 49 (.mov 9),p 50 (.mov 1),p 51 (.mov 10),p 52 (.bin
 .add 50 51),w 53 (.call (.k (.fn 187 [] [])) [(.k (.int .i64 6)),49,52]),p 54 (.extr 0 53),p 55 (.extr 1 53),p 56 (.extr 2 53),w0 (.store 3 4 54),p 5 (.mov 55),p 6 (.mov 56)])
 .ret))))) (.seq (.reg [p 58 (.mov 8),p 59 (.bin .eql 58 (.k (.int .u8 123))),p 57 (.mov 59)]) (.cond 57 (.seq (.reg [p 60 (.build [(.int .i64 0),(.int .i64 0),(.str [])] [(0,1,
 (.k (.int .i64 7)))]),p 61 (.mov 1),p 62 (.bin .add 61 (.k (.int .i64 1))),w0 (.store 3 4 60),p 5 (.mov 62),p 6 (.mov (.k (.int .i64 0)))]) .ret) (.seq (.reg [p 64 (.mov 8),p
 65 (.bin .eql 64 (.k (.int .u8 125))),p 63 (.mov 65)]) (.cond 63 (.seq (.reg [p 66 (.build [(.int .i64 0),(.int .i64 0),(.str [])] [(0,1,(.k (.int .i64 8)))]),p 67 (.mov 1),p
 68 (.bin .add 67 (.k (.int .i64 1))),w0 (.store 3 4 66),p 5 (.mov 68),p 6 (.mov (.k (.int .i64 0)))]) .ret) (.seq (.reg [p 70 (.mov 8),p 71 (.bin .eql 70 (.k (.int .u8 91))),p
 72 (.mov 71),pg 73 72 false (.mov 8),pg 74 72 false (.bin .eql 73 (.k (.int .u8 93))),p 75 (.pick 72 (.k (.bool true)) 74),p 69 (.mov 75)]) (.cond 69 (.seq (.reg [p 76 (.mov 0),
 p 77 (.mov 1),p 78 (.mov 1),p 79 (.bin .add 78 (.k (.int .i64 1))),p 80 (.subS 76 (some 77) (some 79)),p 81 (.mov 1),p 82 (.bin .add 81 (.k (.int .i64 1))),w 83 (.call (.k (.fn
 187 [] [])) [(.k (.int .i64 3)),80,82]),p 84 (.extr 0 83),p 85 (.extr 1 83),p 86 (.extr 2 83),w0 (.store 3 4 84),p 5 (.mov 85),p 6 (.mov 86)]) .ret) (.seq (.reg [p 88 (.mov
 8),p 89 (.bin .eql 88 (.k (.int .u8 60))),p 90 (.mov 89),pg 91 90 true (.mov 7),pg 92 90 true (.bin .eql 91 (.k (.int .u8 60))),p 93 (.pick 90 92 (.k (.bool false))),p 94 (.mov
 93),pg 95 94 false (.mov 8),pg 96 94 false (.bin .eql 95 (.k (.int .u8 62))),pg 97 94 false (.mov 96),pg 98 97 true (.mov 7),pg 99 97 true (.bin .eql 98 (.k (.int .u8 62))),pg
 100 94 false (.pick 97 99 (.k (.bool false))),p 101 (.pick 94 (.k (.bool true)) 100),p 87 (.mov 101)]) (.seq (.keep [0,1,4,7,8,87]) (.cond 87 (.seq (.reg [p 102 (.mov 0),p 103
 (.mov 1),p 104 (.mov 1),p 105 (.bin .add 104 (.k (.int .i64 2))),p 106 (.subS 102 (some 103) (some 105)),p 107 (.mov 1),p 108 (.bin .add 107 (.k (.int .i64 2))),w 109 (.call (.k
 (.fn 187 [] [])) [(.k (.int .i64 3)),106,108]),p 110 (.extr 0 109),p 111 (.extr 1 109),p 112 (.extr 2 109),w0 (.store 3 4 110),p 5 (.mov 111),p 6 (.mov 112)]) .ret) (.seq (.reg
 [p 114 (.mov 8),p 115 (.bin .eql 114 (.k (.int .u8 60))),p 116 (.mov 115),pg 117 116 true (.mov 7),pg 118 116 true (.bin .eql 117 (.k (.int .u8 126))),p 119 (.pick 116 118 (.k
 (.bool false))),p 113 (.mov 119)]) (.cond 113 (.seq (.reg [p 121 (.mov 0),p 122 (.mov 1),p 123 (.bin .add 122 (.k (.int .i64 2))),p 124 (.subS 121 (some 123) none),w 125 (.call
 (.k (.fn 188 [] [])) [124]),p 120 (.mov 125),p 126 (.extr 0 120),p 127 (.extr 1 120),p 128 (.extr 2 120),p 12 (.mov 126),p 13 (.mov 127),p 14 (.mov 128)]) (.seq (.keep [1,4,
 12,13,14]) (.seq (.seq (.reg [p 129 (.mov 14),p 130 (.bin .eql 129 (.k (.int .i64 3)))]) (.cond 130 (.seq (.reg [p 131 (.build [(.int .i64 0),(.int .i64 0),(.str [])] []),w0 (.store
 3 4 131),p 5 (.mov (.k (.int .i64 0))),p 6 (.mov (.k (.int .i64 26)))]) .ret) .skip)) (.seq (.seq (.reg [p 132 (.mov 14),p 133 (.bin .neq 132 (.k (.int .i64 0)))]) (.cond 133 (.seq
 (.reg [p 134 (.build [(.int .i64 0),(.int .i64 0),(.str [])] []),w0 (.store 3 4 134),p 5 (.mov (.k (.int .i64 0))),p 6 (.mov (.k (.int .i64 37)))]) .ret) .skip)) (.seq (.reg [p
 135 (.mov 12),p 136 (.mov 1),p 137 (.bin .add 136 (.k (.int .i64 2))),p 138 (.mov 13),p 139 (.bin .add 137 138),w 140 (.call (.k (.fn 187 [] [])) [(.k (.int .i64 6)),135,139]),
 p 141 (.extr 0 140),p 142 (.extr 1 140),p 143 (.extr 2 140),w0 (.store 3 4 141),p 5 (.mov 142),p 6 (.mov 143)]) .ret))))) (.seq (.reg [p 145 (.mov 8),p 146 (.bin .eql 145 (.k
 (.int .u8 60))),p 144 (.mov 146)]) (.cond 144 (.seq (.reg [p 148 (.mov 0),p 149 (.mov 1),p 150 (.bin .add 149 (.k (.int .i64 1))),p 151 (.subS 148 (some 150) none),w 152 (.call
 (.k (.fn 189 [] [])) [151]),p 147 (.mov 152),p 153 (.extr 0 147),p 154 (.extr 1 147),p 155 (.extr 2 147),p 15 (.mov 153),p 16 (.mov 154),p 17 (.mov 155)]) (.seq (.keep [1,4,
 15,16,17]) (.seq (.seq (.reg [p 156 (.mov 17),p 157 (.bin .neq 156 (.k (.int .i64 0)))]) (.cond 157 (.seq (.reg [p 158 (.build [(.int .i64 0),(.int .i64 0),(.str [])] []),w0 (.store
 3 4 158),p 5 (.mov (.k (.int .i64 0))),p 6 (.mov (.k (.int .i64 37)))]) .ret) .skip)) (.seq (.reg [p 159 (.mov 15),p 160 (.mov 1),p 161 (.bin .add 160 (.k (.int .i64 1))),p 162
 (.mov 16),p 163 (.bin .add 161 162),w 164 (.call (.k (.fn 187 [] [])) [(.k (.int .i64 6)),159,163]),p 165 (.extr 0 164),p 166 (.extr 1 164),p 167 (.extr 2 164),w0 (.store 3
 4 165),p 5 (.mov 166),p 6 (.mov 167)]) .ret)))) (.seq (.reg [p 169 (.mov 8),p 170 (.bin .eql 169 (.k (.int .u8 47))),p 171 (.mov 170),pg 172 171 true (.mov 7),pg 173 171 true
 (.bin .eql 172 (.k (.int .u8 47))),p 174 (.pick 171 173 (.k (.bool false))),p 168 (.mov 174)]) (.cond 168 (.seq (.regd [.op 3 (p 178 (.mov 0)),.op 4 (p 179 (.mov 1)),.op 5 (p 180
 (.bin .add 179 (.k (.int .i64 2)))),.op 6 (w 181 (.call (.k (.fn 190 [] [])) [178,180])),.op 8 (p 183 (.mov 0)),.op 9 (p 184 (.mov 1)),.op 10 (p 185 (.bin .add 184 (.k (.int .i64
 2)))),.op 11 (w 186 (.call (.k (.fn 190 [] [])) [183,185])),.op 0 (p 175 (.mov 0)),.op 1 (p 176 (.mov 1)),.op 2 (p 177 (.bin .add 176 (.k (.int .i64 2)))),.op 7 (p 182 (.subS
 175 (some 177) (some 181))),.op 12 (w 187 (.call (.k (.fn 187 [] [])) [(.k (.int .i64 5)),182,186])),.op 13 (p 188 (.extr 0 187)),.op 14 (p 189 (.extr 1 187)),.op 15 (p 190 (.extr
 2 187)),.op 16 (w0 (.store 3 4 188)),.op 17 (p 5 (.mov 189)),.op 18 (p 6 (.mov 190))]) .ret) (.seq (.reg [p 192 (.mov 8),p 193 (.bin .eql 192 (.k (.int .u8 47))),p 191 (.mov 193)])
 (.cond 191 (.seq (.regd [.op 3 (p 197 (.mov 0)),.op 4 (p 198 (.mov 1)),.op 5 (p 199 (.bin .add 198 (.k (.int .i64 1)))),.op 6 (w 200 (.call (.k (.fn 190 [] [])) [197,199])),.op
 8 (p 202 (.mov 0)),.op 9 (p 203 (.mov 1)),.op 10 (p 204 (.bin .add 203 (.k (.int .i64 1)))),.op 11 (w 205 (.call (.k (.fn 190 [] [])) [202,204])),.op 0 (p 194 (.mov 0)),.op 1
 (p 195 (.mov 1)),.op 2 (p 196 (.bin .add 195 (.k (.int .i64 1)))),.op 7 (p 201 (.subS 194 (some 196) (some 200))),.op 12 (w 206 (.call (.k (.fn 187 [] [])) [(.k (.int .i64 4)),201,
 205])),.op 13 (p 207 (.extr 0 206)),.op 14 (p 208 (.extr 1 206)),.op 15 (p 209 (.extr 2 206)),.op 16 (w0 (.store 3 4 207)),.op 17 (p 5 (.mov 208)),.op 18 (p 6 (.mov 209))]) .ret)
 (.seq (.reg [p 211 (.mov 8),p 212 (.bin .eql 211 (.k (.int .u8 62))),p 213 (.mov 212),pg 214 213 false (.mov 8),pg 215 213 false (.bin .eql 214 (.k (.int .u8 41))),p 216 (.pick
 213 (.k (.bool true)) 215),p 210 (.mov 216)]) (.cond 210 (.seq (.reg [p 217 (.build [(.int .i64 0),(.int .i64 0),(.str [])] []),w0 (.store 3 4 217),p 5 (.mov (.k (.int .i64 0))),
 p 6 (.mov (.k (.int .i64 37)))]) .ret) (.seq (.reg [p 219 (.mov 8),p 220 (.bin .geq 219 (.k (.int .u8 128))),p 221 (.mov 220),pg 222 221 true (.mov 8),pg 223 221 true (.bin .leq
 222 (.k (.int .u8 159))),p 224 (.pick 221 223 (.k (.bool false))),p 218 (.mov 224)]) (.cond 218 (.seq (.reg [p 225 (.mov 0),p 226 (.mov 1),w 227 (.call (.k (.fn 191 [] [])) [225,
 226]),p 228 (.extr 0 227),p 229 (.extr 1 227),p 230 (.extr 2 227),w0 (.store 3 4 228),p 5 (.mov 229),p 6 (.mov 230)]) .ret) .skip))))))))))))))))))))))))) (.seq (.keep [0,1,
 4]) (.seq (.reg [p 232 (.mov 0),p 233 (.mov 1),p 234 (.mov 0),p 235 (.mov 1),w 236 (.call (.k (.fn 190 [] [])) [234,235]),p 237 (.subS 232 (some 233) (some 236)),w 238 (.call
 (.k (.fn 66 [] [])) [237]),p 231 (.mov 238),p 239 (.extr 0 231),p 240 (.extr 1 231),n 18 (.alloc 134 true [(.int .i64 0),(.int .i64 0),(.str [])]),w0 (.store 3 18 239),p 19
 (.mov 240)]) (.seq (.keep [0,1,4,18,19]) (.seq (.seq (.reg [p 241 (.mov 19),p 242 (.bin .neq 241 (.k (.int .i64 0)))]) (.cond 242 (.seq (.reg [p 243 (.build [(.int .i64 0),(.int
 .i64 0),(.str [])] []),p 244 (.mov 19),w0 (.store 3 4 243),p 5 (.mov (.k (.int .i64 0))),p 6 (.mov 244)]) .ret) .skip)) (.seq (.regd [.op 0 (r 245 (.load (some 3) 18)),.op 1 (p
 246 (.mov 0)),.op 2 (p 247 (.mov 1)),.op 3 (w 248 (.call (.k (.fn 190 [] [])) [246,247])),.re 0,.op 4 (w0 (.store 3 4 245)),.op 5 (p 5 (.mov 248)),.op 6 (p 6 (.mov (.k (.int
 .i64 0))))]) .ret))))))))))⟩
def scan_tokens:MFun:=⟨1,[.t 2],(.seq (.reg [n 1 (.box 9 false 0),p 2 (.mov (.k .nilfn))]) (.seq (.reg [p 3 (.mkfn 192 [] [1]),p 2 (.mov 3)]) .ret))⟩
def scan_form_l0:MCode:=(.seq (.keep [1,3,9,10]) (.seq (.seq (.reg [p 15 (.mov 10),p 16 (.bin .geq 15 (.k (.int .i64 0)))]) (.cond 16 .skip (.exit 0))) (.seq (.block 1 (.reg
 [p 19 (.mov 1),p 20 (.mov 10),p 21 (.bin .mul (.k (.int .i64 8)) 20),p 22 (.bin .shr 19 21),p 23 (.conv .u8 22),w 24 (.call (.k (.fn 91 [] [])) [9,23])])) (.reg [p 17 (.mov 10),
 p 18 (.bin .sub 17 (.k (.int .i64 1))),p 10 (.mov 18)]))))
def scan_form:MFun:=⟨4,[.t 8],(.seq (.reg [p 8 (.mov (.k (.str [])))]) (.seq (.reg [n 9 (.alloc 84 false [.nilptr,.nilslice])]) (.seq (.reg [p 11 (.mov 0),w 12 (.call (.k (.fn
 91 [] [])) [9,11])]) (.seq (.seq (.reg [p 13 (.mov 2),p 14 (.bin .sub 13 (.k (.int .i64 1))),p 10 (.mov 14)]) (.block 0 (.loop scan_form_l0))) (.seq (.keep [3,9]) (.seq (.reg [p
 25 (.mov 3),w 26 (.call (.k (.fn 169 [] [])) [9,25])]) (.seq (.reg [w 27 (.call (.k (.fn 92 [] [])) [9]),p 8 (.mov 27)]) .ret)))))))⟩
def scan_run_string_l0:MCode:=(.seq (.keep [0,1,5]) (.seq (.seq (.reg [p 6 (.mov 5),p 7 (.mov 0),p 8 (.lenOf true 7),p 9 (.bin .lss 6 8),p 10 (.mov 9),pg 11 10 true (.mov
 1),pg 12 10 true (.mov 0),pg 13 10 true (.mov 5),pg 14 10 true (.idxS 12 13),wg 15 10 true (.call 11 [14]),p 16 (.pick 10 15 (.k (.bool false)))]) (.cond 16 .skip (.exit 0))) (.seq
 (.keep [0,1,5]) (.block 1 (.reg [p 17 (.mov 5),p 18 (.bin .add 17 (.k (.int .i64 1))),p 5 (.mov 18)])))))
def scan_run_string:MFun:=⟨2,[.t 4],(.seq (.reg [p 4 (.mov (.k (.int .i64 0)))]) (.seq (.reg [p 5 (.mov (.k (.int .i64 0)))]) (.seq (.block 0 (.loop scan_run_string_l0)) (.seq
 (.keep [5]) (.seq (.reg [p 19 (.mov 5),p 4 (.mov 19)]) .ret)))))⟩
def scan_blank:MFun:=⟨1,[.t 2],(.seq (.reg [p 2 (.mov (.k (.bool false)))]) (.seq (.reg [p 3 (.mov 0),w 4 (.call (.k (.fn 84 [] [])) [(.k (.str [0,9,10,12,13,32])),3]),
 p 5 (.bin .geq 4 (.k (.int .i64 0))),p 2 (.mov 5)]) .ret))⟩
def scan_reader_skip_1:MFun:=⟨1,[.t 2],(.seq (.reg [p 2 (.mov (.k (.bool false)))]) (.seq (.reg [p 3 (.mov 0),p 4 (.bin .neq 3 (.k (.int .u8 10))),p 5 (.mov 4),pg 6 5 true
 (.mov 0),pg 7 5 true (.bin .neq 6 (.k (.int .u8 13))),p 8 (.pick 5 7 (.k (.bool false))),p 2 (.mov 8)]) .ret))⟩
def scan_readers:MFun:=⟨0,[.t 0],(.seq (.reg [p 0 (.mov (.k .nilmap))]) (.seq (.reg [n 1 (.mkMap),w0 (.mput (.i .u8) 1 (.k (.int .u8 40)) (.k (.fn 193 [] []))),w0 (.mput (.i
 .u8) 1 (.k (.int .u8 41)) (.k (.fn 194 [] []))),w0 (.mput (.i .u8) 1 (.k (.int .u8 123)) (.k (.fn 195 [] []))),w0 (.mput (.i .u8) 1 (.k (.int .u8 125)) (.k (.fn 195 [] []))),w0 (.mput
 (.i .u8) 1 (.k (.int .u8 91)) (.k (.fn 196 [] []))),w0 (.mput (.i .u8) 1 (.k (.int .u8 93)) (.k (.fn 196 [] []))),w0 (.mput (.i .u8) 1 (.k (.int .u8 60)) (.k (.fn 197 [] []))),w0
 (.mput (.i .u8) 1 (.k (.int .u8 62)) (.k (.fn 198 [] []))),w0 (.mput (.i .u8) 1 (.k (.int .u8 47)) (.k (.fn 199 [] []))),p 2 (.mov 1),p 0 (.mov 2)]) .ret))⟩
def scan_reader_binary:MFun:=⟨1,[.cell 2 (some 3),.t 3,.t 4],(.seq (.reg [n 2 (.alloc 134 true [(.int .i64 0),(.int .i64 0),(.str [])]),p 3 (.mov (.k (.int .i64 0))),p 4
 (.mov (.k (.int .i64 0)))]) (.seq (.seq (.regd [.op 0 (p 5 (.mov 0)),.op 1 (p 6 (.nilck 5)),.op 2 (p 7 (.faddr 0 6)),.op 3 (p 8 (.faddr 0 7)),.op 4 (r 9 (.load none 8)),.op 5 (p
 10 (.mov 0)),.op 6 (p 11 (.nilck 10)),.op 7 (p 12 (.faddr 0 11)),.op 8 (p 13 (.faddr 1 12)),.op 9 (r 14 (.load none 13)),.op 10 (p 15 (.idxS 9 14))]) (.seq (.keep [0,2,15]) (.block
 0 (.seq (.reg [p 17 (.bin .eql 15 (.k (.int .u8 128))),p 16 (.mov 17)]) (.cond 16 (.seq (.reg [p 18 (.mov 0),w 19 (.call (.k (.fn 200 [] [])) [18,(.k (.int .i64 1)),(.k (.int .i64
 4))]),p 20 (.extr 0 19),p 21 (.extr 1 19),p 22 (.extr 2 19),w0 (.store 3 2 20),p 3 (.mov 21),p 4 (.mov 22)]) .ret) (.seq (.reg [p 24 (.bin .eql 15 (.k (.int .u8 129))),p 23 (.mov
 24)]) (.cond 23 (.seq (.reg [p 25 (.mov 0),w 26 (.call (.k (.fn 200 [] [])) [25,(.k (.int .i64 1)),(.k (.int .i64 1))]),p 27 (.extr 0 26),p 28 (.extr 1 26),p 29 (.extr 2 26),
 w0 (.store 3 2 27),p 3 (.mov 28),p 4 (.mov 29)]) .ret) (.seq (.reg [p 31 (.bin .eql 15 (.k (.int .u8 130))),p 30 (.mov 31)]) (.cond 30 (.seq (.reg [p 32 (.mov 0),w 33 (.call (.k
 (.fn 200 [] [])) [32,(.k (.int .i64 1)),(.k (.int .i64 2))]),p 34 (.extr 0 33),p 35 (.extr 1 33),p 36 (.extr 2 33),w0 (.store 3 2 34),p 3 (.mov 35),p 4 (.mov 36)]) .ret) (.seq
 (.reg [p 38 (.bin .eql 15 (.k (.int .u8 131))),p 37 (.mov 38)]) (.cond 37 (.seq (.reg [p 39 (.mov 0),w 40 (.call (.k (.fn 200 [] [])) [39,(.k (.int .i64 2)),(.k (.int .i64 4))]),
 p 41 (.extr 0 40),p 42 (.extr 1 40),p 43 (.extr 2 40),w0 (.store 3 2 41),p 3 (.mov 42),p 4 (.mov 43)]) .ret) (.seq (.reg [p 45 (.bin .eql 15 (.k (.int .u8 132))),p 44 (.mov 45)])
 (.cond 44 (.seq (.reg [p 46 (.mov 0),w 47 (.call (.k (.fn 201 [] [])) [46,(.k (.int .i64 6)),(.k (.int .i64 1))]),p 48 (.extr 0 47),p 49 (.extr 1 47),p 50 (.extr 2 47),w0 (.store
 3 2 48),p 3 (.mov 49),p 4 (.mov 50)]) .ret) (.seq (.reg [p 52 (.bin .eql 15 (.k (.int .u8 133))),p 51 (.mov 52)]) (.cond 51 (.seq (.reg [p 53 (.mov 0),w 54 (.call (.k (.fn 201 []
 [])) [53,(.k (.int .i64 6)),(.k (.int .i64 2))]),p 55 (.extr 0 54),p 56 (.extr 1 54),p 57 (.extr 2 54),w0 (.store 3 2 55),p 3 (.mov 56),p 4 (.mov 57)]) .ret) (.seq (.reg [p
 59 (.bin .eql 15 (.k (.int .u8 134))),p 58 (.mov 59)]) (.cond 58 (.seq (.reg [p 60 (.mov 0),w 61 (.call (.k (.fn 201 [] [])) [60,(.k (.int .i64 4)),(.k (.int .i64 1))]),p 62 (.extr
 0 61),p 63 (.extr 1 61),p 64 (.extr 2 61),w0 (.store 3 2 62),p 3 (.mov 63),p 4 (.mov 64)]) .ret) (.seq (.reg [p 66 (.bin .eql 15 (.k (.int .u8 135))),p 65 (.mov 66)]) (.cond 65
 (.seq (.reg [p 67 (.mov 0),w 68 (.call (.k (.fn 201 [] [])) [67,(.k (.int .i64 3)),(.k (.int .i64 1))]),p 69 (.extr 0 68),p 70 (.extr 1 68),p 71 (.extr 2 68),w0 (.store 3 2 69),
 p 3 (.mov 70),p 4 (.mov 71)]) .ret) (.seq (.reg [p 73 (.bin .eql 15 (.k (.int .u8 136))),p 72 (.mov 73)]) (.cond 72 (.seq (.reg [p 74 (.mov 0),w 75 (.call (.k (.fn 201 [] [])) [74,
 (.k (.int .i64 5)),(.k (.int .i64 1))]),p 76 (.extr 0 75),p 77 (.extr 1 75),p 78 (.extr 2 75),w0 (.store 3 2 76),p 3 (.mov 77),p 4 (.mov 78)]) .ret) .skip)))))))))))))))))))))
 (.seq (.keep [0,2]) (.seq (.reg [p 79 (.mov 0),w 80 (.call (.k (.fn 194 [] [])) [79]),p 81 (.extr 0 80),p 82 (.extr 1 80),p 83 (.extr 2 80),w0 (.store 3 2 81),p 3 (.mov 82),
 p 4 (.mov 83)]) .ret))))⟩
def chaseref04_named:MFun:=⟨3,[.cell 6 (some 3),.t 7,.t 8],(.seq (.reg [n 6 (.alloc 134 true [(.int .i64 0),(.int .i64 0),(.str [])]),p 7 (.mov (.k (.int .i64 0))),p 8 (.mov
 (.k (.int .i64 0)))]) (.seq (.reg [p 11 (.mov 0),p 12 (.mov 1),p 13 (.build [(.int .i64 0),(.int .i64 0),(.str [])] [(0,1,11),(2,1,12)]),n 9 (.alloc 134 true [(.int .i64 0),
 (.int .i64 0),(.str [])]),w0 (.store 3 9 13)]) (.seq (.reg [p 10 (.mov (.k (.int .i64 100)))]) (.seq (.seq (.reg [p 14 (.mov 0),p 15 (.bin .eql 14 (.k (.int .i64 6)))]) (.cond 15
 (.reg [p 10 (.mov (.k (.int .i64 1000)))]) .skip)) (.seq (.seq (.reg [p 16 (.mov 1),p 17 (.lenOf true 16),p 18 (.mov 10),p 19 (.bin .gtr 17 18)]) (.cond 19 (.seq (.reg [p 20 (.build
 [(.int .i64 0),(.int .i64 0),(.str [])] []),w0 (.store 3 6 20),p 7 (.mov (.k (.int .i64 0))),p 8 (.mov (.k (.int .i64 26)))]) .ret) .skip)) (.seq (.keep [2,6,9]) (.seq (.seq
 (.reg [r 21 (.load (some 3) 9),w 22 (.call (.k (.fn 129 [] [])) [21]),p 23 (.un .not 22)]) (.cond 23 (.seq (.reg [p 24 (.build [(.int .i64 0),(.int .i64 0),(.str [])] []),w0 (.store
 3 6 24),p 7 (.mov (.k (.int .i64 0))),p 8 (.mov (.k (.int .i64 37)))]) .ret) .skip)) (.seq (.reg [r 25 (.load (some 3) 9),p 26 (.mov 2),w0 (.store 3 6 25),p 7 (.mov 26),p 8 (.mov
 (.k (.int .i64 0)))]) .ret))))))))⟩
def chaseref02_Unbase85_l0:MCode:=(.seq (.keep [0,5,6,7]) (.seq (.seq (.reg [p 13 (.mov 7),p 14 (.mov 0),p 15 (.lenOf true 14),p 16 (.bin .lss 13 15)]) (.cond 16 .skip (.exit
 0))) (.seq (.block 1 (.seq (.reg [p 19 (.mov 0),p 20 (.mov 7),p 21 (.idxS 19 20),p 8 (.mov 21)]) (.block 2 (.seq (.reg [p 38 (.mov 8),w 39 (.call (.k (.fn 85 [] [])) [38]),p 37
 (.mov 39)]) (.cond 37 .skip (.seq (.reg [p 41 (.mov 8),p 42 (.bin .eql 41 (.k (.int .u8 126))),p 40 (.mov 42)]) (.cond 40 (.seq (.reg [p 43 (.mov 0),p 44 (.mov 7),p 45 (.bin .add
 44 (.k (.int .i64 1))),w 46 (.call (.k (.fn 202 [] [])) [43,45]),p 9 (.mov 46)]) (.seq (.seq (.reg [p 47 (.mov 9),p 48 (.bin .lss 47 (.k (.int .i64 0))),p 49 (.mov 48),pg 50 49
 false (.mov 6),pg 51 49 false (.lenOf false 50),pg 52 49 false (.bin .eql 51 (.k (.int .i64 1))),p 53 (.pick 49 (.k (.bool true)) 52),p 54 (.mov 53),pg 55 54 false (.mov 6),pg
 56 54 false (.lenOf false 55),pg 57 54 false (.bin .gtr 56 (.k (.int .i64 1))),pg 58 54 false (.mov 57),pg 59 58 true (.mov 6),wg 60 58 true (.call (.k (.fn 203 [] [])) [59]),pg
 61 58 true (.bin .geq 60 (.k (.int .i64 4294967296))),pg 62 54 false (.pick 58 61 (.k (.bool false))),p 63 (.pick 54 (.k (.bool true)) 62)]) (.seq (.keep [5,6,9,63]) (.cond 63
 (.seq (.reg [p 2 (.mov (.k (.str []))),p 3 (.mov (.k (.int .i64 0))),p 4 (.mov (.k (.int .i64 5)))]) .ret) .skip))) (.seq (.keep [5,6,9]) (.seq (.seq (.reg [p 64 (.mov 6),p 65
 (.lenOf false 64),p 66 (.bin .gtr 65 (.k (.int .i64 1)))]) (.cond 66 (.reg [p 67 (.mov 5),p 68 (.mov 6),w 69 (.call (.k (.fn 203 [] [])) [68]),w 70 (.call (.k (.fn 204 [] [])) [69]),
 p 71 (.mov 6),p 72 (.lenOf false 71),p 73 (.bin .sub 72 (.k (.int .i64 1))),p 74 (.subL 1 70 none (some 73) none),w 75 (.append 5 1 1 [(.int .u8 0)] 67 74),p 5 (.mov 75)]) .skip))
 (.seq (.keep [5,9]) (.seq (.reg [p 76 (.mov 5),p 77 (.mov 9),w 78 (.call (.k (.fn 205 [] [])) [76,77]),p 79 (.extr 0 78),p 80 (.extr 1 78),p 81 (.extr 2 78),p 2 (.mov 79),p
 3 (.mov 80),p 4 (.mov 81)]) .ret)))))) (.seq (.reg [p 83 (.mov 8),p 84 (.bin .eql 83 (.k (.int .u8 122))),p 85 (.mov 84),pg 86 85 true (.mov 6),pg 87 85 true (.lenOf false 86),
 pg 88 85 true (.bin .eql 87 (.k (.int .i64 0))),p 89 (.pick 85 88 (.k (.bool false))),p 82 (.mov 89)]) (.seq (.keep [0,5,6,7,8,82]) (.cond 82 (.reg [p 90 (.mov 5),n 91 (.buildSl
 5 4 [(.int .u8 0),(.int .u8 0),(.int .u8 0),(.int .u8 0)] [(0,1,(.k (.int .u8 0))),(1,1,(.k (.int .u8 0))),(2,1,(.k (.int .u8 0))),(3,1,(.k (.int .u8 0)))]),w 92 (.append
 5 1 1 [(.int .u8 0)] 90 91),p 5 (.mov 92)]) (.seq (.reg [p 94 (.mov 8),p 95 (.bin .lss 94 (.k (.int .u8 33))),p 96 (.mov 95),pg 97 96 false (.mov 8),pg 98 96 false (.bin .gtr 97
 (.k (.int .u8 117))),p 99 (.pick 96 (.k (.bool true)) 98),p 93 (.mov 99)]) (.cond 93 (.seq (.reg [p 2 (.mov (.k (.str []))),p 3 (.mov (.k (.int .i64 0))),p 4 (.mov (.k (.int .i64
 5)))]) .ret) (.seq (.reg [p 22 (.mov 6),p 23 (.mov 8),n 24 (.buildSl 5 1 [(.int .u8 0)] [(0,1,23)]),w 25 (.append 5 1 1 [(.int .u8 0)] 22 24),p 6 (.mov 25)]) (.seq (.seq (.reg
 [p 26 (.mov 6),p 27 (.lenOf false 26),p 28 (.bin .lss 27 (.k (.int .i64 5)))]) (.cond 28 (.exit 1) .skip)) (.seq (.seq (.reg [p 29 (.mov 6),w 30 (.call (.k (.fn 203 [] [])) [29]),
 p 31 (.bin .geq 30 (.k (.int .i64 4294967296)))]) (.cond 31 (.seq (.reg [p 2 (.mov (.k (.str []))),p 3 (.mov (.k (.int .i64 0))),p 4 (.mov (.k (.int .i64 5)))]) .ret) .skip)) (.seq
 (.reg [p 32 (.mov 5),p 33 (.mov 6),w 34 (.call (.k (.fn 203 [] [])) [33]),w 35 (.call (.k (.fn 204 [] [])) [34]),w 36 (.append 5 1 1 [(.int .u8 0)] 32 35),p 5 (.mov 36)]) (.reg
 [p 6 (.mov (.k .nilslice))]))))))))))))))))) (.seq (.keep [0,5,6,7]) (.reg [p 17 (.mov 7),p 18 (.bin .add 17 (.k (.int .i64 1))),p 7 (.mov 18)])))))
def chaseref02_Unbase85:MFun:=⟨1,[.t 2,.t 3,.t 4],(.seq (.reg [p 2 (.mov (.k (.str []))),p 3 (.mov (.k (.int .i64 0))),p 4 (.mov (.k (.int .i64 0)))]) (.seq (.seq (.reg [p
 10 (.mov 0),p 11 (.lenOf true 10),p 12 (.bin .gtr 11 (.k (.int .i64 65536)))]) (.cond 12 (.seq (.reg [p 2 (.mov (.k (.str []))),p 3 (.mov (.k (.int .i64 0))),p 4 (.mov (.k (.int
 .i64 3)))]) .ret) .skip)) (.seq (.reg [p 5 (.mov (.k .nilslice)),p 6 (.mov (.k .nilslice))]) (.seq (.seq (.reg [p 7 (.mov (.k (.int .i64 0)))]) (.block 0 (.loop chaseref02_Unbase85_l0)))
 (.seq (.keep []) (.seq (.reg [p 2 (.mov (.k (.str []))),p 3 (.mov (.k (.int .i64 0))),p 4 (.mov (.k (.int .i64 5)))]) .ret))))))⟩
def chaseref02_Unhex_l0:MCode:=(.seq (.keep [5,6,7,8]) (.seq (.seq (.reg [p 29 (.mov 8),p 30 (.mov 5),p 31 (.lenOf false 30),p 32 (.bin .lss 29 31)]) (.cond 32 .skip (.exit
 2))) (.seq (.block 3 (.regd [.op 1 (p 36 (.mov 5)),.op 2 (p 37 (.mov 8)),.op 3 (p 38 (.iaddrS 1 36 37)),.op 4 (r 39 (.load none 38)),.op 6 (p 41 (.mov 5)),.op 7 (p 42 (.mov 8)),
 .op 8 (p 43 (.bin .add 42 (.k (.int .i64 1)))),.op 9 (p 44 (.iaddrS 1 41 43)),.op 10 (r 45 (.load none 44)),.op 0 (p 35 (.mov 7)),.op 5 (p 40 (.bin .mul (.k (.int .i64 16)) 39)),
 .op 11 (p 46 (.bin .add 40 45)),.op 12 (p 47 (.conv .u8 46)),.op 13 (n 48 (.buildSl 5 1 [(.int .u8 0)] [(0,1,47)])),.op 14 (w 49 (.append 5 1 1 [(.int .u8 0)] 35 48)),.op 15 (p
 7 (.mov 49))])) (.seq (.keep [5,6,7,8]) (.reg [p 33 (.mov 8),p 34 (.bin .add 33 (.k (.int .i64 2))),p 8 (.mov 34)])))))
def chaseref02_Unhex_l1:MCode:=(.seq (.keep [0,5,6]) (.seq (.seq (.reg [p 12 (.mov 6),p 13 (.mov 0),p 14 (.lenOf true 13),p 15 (.bin .lss 12 14)]) (.cond 15 .skip (.exit 0)))
 (.seq (.block 1 (.seq (.seq (.reg [p 18 (.mov 0),p 19 (.mov 6),p 20 (.idxS 18 19),p 21 (.bin .eql 20 (.k (.int .u8 62)))]) (.cond 21 (.seq (.seq (.reg [p 22 (.mov 5),p 23 (.lenOf
 false 22),p 24 (.bin .rem 23 (.k (.int .i64 2))),p 25 (.bin .eql 24 (.k (.int .i64 1)))]) (.cond 25 (.reg [p 26 (.mov 5),n 27 (.buildSl 3 1 [(.int .i64 0)] [(0,1,(.k (.int .i64
 0)))]),w 28 (.append 3 1 8 [(.int .i64 0)] 26 27),p 5 (.mov 28)]) .skip)) (.seq (.keep [5,6]) (.seq (.reg [p 7 (.mov (.k .nilslice))]) (.seq (.seq (.reg [p 8 (.mov (.k (.int .i64
 0)))]) (.block 2 (.loop chaseref02_Unhex_l0))) (.seq (.keep [6,7]) (.seq (.reg [p 50 (.mov 7),r 51 (.b2s 50),p 52 (.mov 6),p 53 (.bin .add 52 (.k (.int .i64 1))),p 2 (.mov 51),
 p 3 (.mov 53),p 4 (.mov (.k (.int .i64 0)))]) .ret)))))) .skip)) (.seq (.keep [0,5,6]) (.seq (.seq (.reg [p 54 (.mov 0),p 55 (.mov 6),p 56 (.idxS 54 55),w 57 (.call (.k (.fn 85
 [] [])) [56])]) (.cond 57 (.exit 1) .skip)) (.seq (.seq (.reg [p 58 (.mov 0),p 59 (.mov 6),p 60 (.idxS 58 59),w 61 (.call (.k (.fn 206 [] [])) [60]),p 62 (.bin .lss 61 (.k (.int
 .i64 0)))]) (.cond 62 (.seq (.reg [p 2 (.mov (.k (.str []))),p 3 (.mov (.k (.int .i64 0))),p 4 (.mov (.k (.int .i64 5)))]) .ret) .skip)) (.seq (.keep [0,5,6]) (.reg [p 63 (.mov
 5),p 64 (.mov 0),p 65 (.mov 6),p 66 (.idxS 64 65),w 67 (.call (.k (.fn 206 [] [])) [66]),n 68 (.buildSl 3 1 [(.int .i64 0)] [(0,1,67)]),w 69 (.append 3 1 8 [(.int .i64 0)] 63
 68),p 5 (.mov 69)]))))))) (.seq (.keep [0,5,6]) (.reg [p 16 (.mov 6),p 17 (.bin .add 16 (.k (.int .i64 1))),p 6 (.mov 17)])))))
def chaseref02_Unhex:MFun:=⟨1,[.t 2,.t 3,.t 4],(.seq (.reg [p 2 (.mov (.k (.str []))),p 3 (.mov (.k (.int .i64 0))),p 4 (.mov (.k (.int .i64 0)))]) (.seq (.seq (.reg [p 9
 (.mov 0),p 10 (.lenOf true 9),p 11 (.bin .gtr 10 (.k (.int .i64 65536)))]) (.cond 11 (.seq (.reg [p 2 (.mov (.k (.str []))),p 3 (.mov (.k (.int .i64 0))),p 4 (.mov (.k (.int .i64
 3)))]) .ret) .skip)) (.seq (.reg [p 5 (.mov (.k .nilslice))]) (.seq (.seq (.reg [p 6 (.mov (.k (.int .i64 0)))]) (.block 0 (.loop chaseref02_Unhex_l1))) (.seq (.keep []) (.seq (.reg
 [p 2 (.mov (.k (.str []))),p 3 (.mov (.k (.int .i64 0))),p 4 (.mov (.k (.int .i64 5)))]) .ret))))))⟩
def chaseref04_after_l0:MCode:=(.seq (.keep [0,1]) (.seq (.seq (.reg [p 5 (.mov 1),p 6 (.mov 0),p 7 (.lenOf true 6),p 8 (.bin .lss 5 7),p 9 (.mov 8),pg 10 9 true (.mov 0),
 pg 11 9 true (.mov 1),pg 12 9 true (.idxS 10 11),wg 13 9 true (.call (.k (.fn 68 [] [])) [12]),p 14 (.pick 9 13 (.k (.bool false)))]) (.cond 14 .skip (.exit 0))) (.seq (.keep [0,
 1]) (.block 1 (.reg [p 15 (.mov 1),p 16 (.bin .add 15 (.k (.int .i64 1))),p 1 (.mov 16)])))))
def chaseref04_after:MFun:=⟨2,[.t 4],(.seq (.reg [p 4 (.mov (.k (.int .i64 0)))]) (.seq (.block 0 (.loop chaseref04_after_l0)) (.seq (.keep [1]) (.seq (.reg [p 17 (.mov 1),p
 4 (.mov 17)]) .ret))))⟩
def chaseref04_binary:MFun:=⟨2,[.cell 4 (some 3),.t 5,.t 6],(.seq (.reg [n 4 (.alloc 134 true [(.int .i64 0),(.int .i64 0),(.str [])]),p 5 (.mov (.k (.int .i64 0))),p 6
 (.mov (.k (.int .i64 0)))]) (.seq (.reg [p 13 (.build (List.replicate 9 (.int .i64 0)) [(0,1,(.k (.int .i64 1))),(1,1,(.k (.int .i64 1))),(2,1,(.k (.int .i64 1))),(3,1,(.k
 (.int .i64 2))),(4,1,(.k (.int .i64 6))),(5,1,(.k (.int .i64 6))),(6,1,(.k (.int .i64 4))),(7,1,(.k (.int .i64 3))),(8,1,(.k (.int .i64 5)))]),n 7 (.alloc 297 true (List.replicate
 9 (.int .i64 0))),w0 (.store 9 7 13)]) (.seq (.reg [p 14 (.build (List.replicate 9 (.int .i64 0)) [(0,1,(.k (.int .i64 4))),(1,1,(.k (.int .i64 1))),(2,1,(.k (.int .i64 2))),
 (3,1,(.k (.int .i64 4))),(4,1,(.k (.int .i64 1))),(5,1,(.k (.int .i64 2))),(6,1,(.k (.int .i64 1))),(7,1,(.k (.int .i64 1))),(8,1,(.k (.int .i64 1)))]),n 8 (.alloc
 297 true (List.replicate 9 (.int .i64 0))),w0 (.store 9 8 14)]) (.seq (.reg [p 15 (.mov 0),p 16 (.mov 1),p 17 (.idxS 15 16),p 18 (.conv .i64 17),p 19 (.bin .sub 18 (.k (.int .i64
 128))),p 9 (.mov 19)]) (.seq (.seq (.reg [p 20 (.mov 9),p 21 (.bin .gtr 20 (.k (.int .i64 8))),p 22 (.mov 21),pg 23 22 false (.mov 0),pg 24 22 false (.lenOf true 23),pg 25 22
 false (.mov 1),pg 26 22 false (.bin .sub 24 25),pg 27 22 false (.bin .sub 26 (.k (.int .i64 1))),pg 28 22 false (.mov 9),pg 29 22 false (.iaddrA 9 1 8 28),rg 30 22 false (.load
 none 29),pg 31 22 false (.bin .lss 27 30),p 32 (.pick 22 (.k (.bool true)) 31)]) (.seq (.keep [0,1,4,7,8,9,32]) (.cond 32 (.seq (.reg [p 33 (.build [(.int .i64 0),(.int .i64
 0),(.str [])] []),w0 (.store 3 4 33),p 5 (.mov (.k (.int .i64 0))),p 6 (.mov (.k (.int .i64 37)))]) .ret) .skip))) (.seq (.keep [0,1,4,7,8,9]) (.seq (.reg [p 34 (.mov 0),p
 35 (.mov 1),p 36 (.bin .add 35 (.k (.int .i64 1))),p 37 (.mov 1),p 38 (.bin .add 37 (.k (.int .i64 1))),p 39 (.mov 9),p 40 (.iaddrA 9 1 8 39),r 41 (.load none 40),p 42 (.bin
 .add 38 41),p 43 (.subS 34 (some 36) (some 42)),p 10 (.mov 43)]) (.seq (.keep [0,1,4,7,8,9,10]) (.seq (.reg [p 44 (.mov 1),p 45 (.bin .add 44 (.k (.int .i64 1))),p 46 (.mov
 9),p 47 (.iaddrA 9 1 8 46),r 48 (.load none 47),p 49 (.bin .add 45 48),p 11 (.mov 49)]) (.seq (.seq (.reg [p 50 (.mov 9),p 51 (.bin .lss 50 (.k (.int .i64 4)))]) (.cond 51 (.seq
 (.regd [.op 0 (p 52 (.mov 9)),.op 1 (p 53 (.iaddrA 9 1 7 52)),.op 2 (r 54 (.load none 53)),.op 3 (p 55 (.mov 10)),.op 4 (w 56 (.call (.k (.fn 207 [] [])) [55])),.re 2,.op 5 (p
 57 (.build [(.int .i64 0),(.int .i64 0),(.str [])] [(0,1,54),(1,1,56)])),.op 7 (w0 (.store 3 4 57)),.op 6 (p 58 (.mov 11)),.op 8 (p 5 (.mov 58)),.op 9 (p 6 (.mov (.k (.int
 .i64 0))))]) .ret) .skip)) (.seq (.keep [0,4,7,9,10,11]) (.seq (.reg [p 59 (.mov 10),w 60 (.call (.k (.fn 208 [] [])) [59]),p 12 (.mov 60)]) (.seq (.seq (.reg [p 61 (.mov 0),
 p 62 (.lenOf true 61),p 63 (.mov 11),p 64 (.bin .sub 62 63),p 65 (.mov 12),p 66 (.bin .lss 64 65)]) (.cond 66 (.seq (.reg [p 67 (.build [(.int .i64 0),(.int .i64 0),(.str [])]
 []),w0 (.store 3 4 67),p 5 (.mov (.k (.int .i64 0))),p 6 (.mov (.k (.int .i64 37)))]) .ret) .skip)) (.seq (.keep [0,4,7,9,11,12]) (.seq (.regd [.op 0 (p 68 (.mov 9)),.op 1
 (p 69 (.iaddrA 9 1 7 68)),.op 2 (r 70 (.load none 69)),.op 3 (p 71 (.mov 0)),.op 4 (p 72 (.mov 11)),.op 5 (p 73 (.mov 11)),.op 6 (p 74 (.mov 12)),.op 7 (p 75 (.bin .add 73 74)),
 .op 8 (p 76 (.subS 71 (some 72) (some 75))),.op 9 (p 77 (.mov 11)),.op 10 (p 78 (.mov 12)),.op 11 (p 79 (.bin .add 77 78)),.op 12 (w 80 (.call (.k (.fn 187 [] [])) [70,76,79])),
 .op 13 (p 81 (.extr 0 80)),.op 14 (p 82 (.extr 1 80)),.op 15 (p 83 (.extr 2 80)),.op 16 (w0 (.store 3 4 81)),.op 17 (p 5 (.mov 82)),.op 18 (p 6 (.mov 83))]) .ret)))))))))))))))⟩
def scan_tokens_1_l0:MCode:=(.seq (.keep [0,1,3]) (.block 1 (.seq (.reg [r 8 (.load none 1),p 9 (.mov 3),w 10 (.call (.k (.fn 158 [] [])) [8,9]),p 7 (.mov 10),p 11 (.extr
 0 7),p 12 (.extr 1 7),p 13 (.extr 2 7),n 4 (.alloc 134 true [(.int .i64 0),(.int .i64 0),(.str [])]),w0 (.store 3 4 11),p 5 (.mov 12),p 6 (.mov 13)]) (.seq (.keep [0,1,4,
 5,6]) (.seq (.seq (.reg [p 14 (.mov 0),r 15 (.load (some 3) 4),p 16 (.mov 5),p 17 (.mov 6),p 18 (.build [(.int .i64 0),(.int .i64 0),(.str []),(.int .i64 0),(.int .i64 0)]
 [(0,3,15),(3,1,16),(4,1,17)]),w 19 (.call 14 [18]),p 20 (.un .not 19),p 21 (.mov 20),pg 22 21 false (.mov 6),pg 23 21 false (.bin .neq 22 (.k (.int .i64 0))),p 24 (.pick
 21 (.k (.bool true)) 23)]) (.cond 24 .ret .skip)) (.seq (.keep [0,1,5]) (.reg [p 25 (.mov 5),p 3 (.mov 25)])))))))
def scan_tokens_1:MFun:=⟨2,[],(.seq (.reg [p 3 (.mov (.k (.int .i64 0)))]) (.block 0 (.loop scan_tokens_1_l0)))⟩
def scan_reader_quoted:MFun:=⟨1,[.cell 2 (some 3),.t 3,.t 4],(.seq (.reg [n 2 (.alloc 134 true [(.int .i64 0),(.int .i64 0),(.str [])]),p 3 (.mov (.k (.int .i64 0))),p 4
 (.mov (.k (.int .i64 0)))]) (.seq (.regd [.op 0 (p 9 (.mov 0)),.op 1 (p 10 (.nilck 9)),.op 2 (p 11 (.faddr 0 10)),.op 3 (p 12 (.faddr 0 11)),.op 4 (r 13 (.load none 12)),.op 5
 (p 14 (.mov 0)),.op 6 (p 15 (.nilck 14)),.op 7 (p 16 (.faddr 0 15)),.op 8 (p 17 (.faddr 1 16)),.op 9 (r 18 (.load none 17)),.op 10 (p 19 (.subS 13 (some 18) none)),.op 11 (w 20
 (.call (.k (.fn 69 [] [])) [19])),.op 12 (p 8 (.mov 20)),.op 13 (p 21 (.extr 0 8)),.op 14 (p 22 (.extr 1 8)),.op 15 (p 23 (.extr 2 8)),.op 16 (p 5 (.mov 21)),.op 17 (p 6 (.mov
 22)),.op 18 (p 7 (.mov 23))]) (.seq (.keep [2,5,6,7]) (.seq (.seq (.reg [p 24 (.mov 7)]) (.block 0 (.seq (.reg [p 26 (.bin .eql 24 (.k (.int .i64 0))),p 25 (.mov 26)]) (.cond 25
 (.seq (.reg [p 27 (.mov 5),p 28 (.mov 6),w 29 (.call (.k (.fn 209 [] [])) [(.k (.int .i64 6)),27,28]),p 30 (.extr 0 29),p 31 (.extr 1 29),p 32 (.extr 2 29),w0 (.store 3 2 30),
 p 3 (.mov 31),p 4 (.mov 32)]) .ret) (.seq (.reg [p 34 (.bin .eql 24 (.k (.int .i64 26))),p 33 (.mov 34)]) (.cond 33 (.seq (.reg [p 35 (.build [(.int .i64 0),(.int .i64 0),(.str
 [])] []),p 36 (.mov 7),w0 (.store 3 2 35),p 3 (.mov (.k (.int .i64 0))),p 4 (.mov 36)]) .ret) .skip)))))) (.seq (.keep [2]) (.seq (.reg [p 37 (.build [(.int .i64 0),(.int .i64
 0),(.str [])] []),w0 (.store 3 2 37),p 3 (.mov (.k (.int .i64 0))),p 4 (.mov (.k (.int .i64 37)))]) .ret))))))⟩
def scan_reader_stray:MFun:=⟨1,[.cell 2 (some 3),.t 3,.t 4],(.seq (.reg [n 2 (.alloc 134 true [(.int .i64 0),(.int .i64 0),(.str [])]),p 3 (.mov (.k (.int .i64 0))),p 4
 (.mov (.k (.int .i64 0)))]) (.seq (.reg [p 5 (.build [(.int .i64 0),(.int .i64 0),(.str [])] []),w0 (.store 3 2 5),p 3 (.mov (.k (.int .i64 0))),p 4 (.mov (.k (.int .i64 37)))])
 .ret))⟩
def scan_reader_brace:MFun:=⟨1,[.cell 2 (some 3),.t 3,.t 4],(.seq (.reg [n 2 (.alloc 134 true [(.int .i64 0),(.int .i64 0),(.str [])]),p 3 (.mov (.k (.int .i64 0))),p 4
 (.mov (.k (.int .i64 0)))]) (.seq (.seq (.regd [.op 0 (p 5 (.mov 0)),.op 1 (p 6 (.nilck 5)),.op 2 (p 7 (.faddr 0 6)),.op 3 (p 8 (.faddr 0 7)),.op 4 (r 9 (.load none 8)),.op 5 (p
 10 (.mov 0)),.op 6 (p 11 (.nilck 10)),.op 7 (p 12 (.faddr 0 11)),.op 8 (p 13 (.faddr 1 12)),.op 9 (r 14 (.load none 13)),.op 10 (p 15 (.idxS 9 14)),.op 11 (p 16 (.bin .eql 15
 (.k (.int .u8 123))))]) (.seq (.keep [2,16]) (.cond 16 (.seq (.reg [p 17 (.build [(.int .i64 0),(.int .i64 0),(.str [])] [(0,1,(.k (.int .i64 7)))]),w0 (.store 3 2 17),p 3 (.mov
 (.k (.int .i64 1))),p 4 (.mov (.k (.int .i64 0)))]) .ret) .skip))) (.seq (.keep [2]) (.seq (.reg [p 18 (.build [(.int .i64 0),(.int .i64 0),(.str [])] [(0,1,(.k (.int .i64 8)))]),
 w0 (.store 3 2 18),p 3 (.mov (.k (.int .i64 1))),p 4 (.mov (.k (.int .i64 0)))]) .ret))))⟩
def scan_reader_bracket:MFun:=⟨1,[.cell 2 (some 3),.t 3,.t 4],(.seq (.reg [n 2 (.alloc 134 true [(.int .i64 0),(.int .i64 0),(.str [])]),p 3 (.mov (.k (.int .i64 0))),p
 4 (.mov (.k (.int .i64 0)))]) (.seq (.regd [.op 0 (p 5 (.mov 0)),.op 1 (p 6 (.nilck 5)),.op 2 (p 7 (.faddr 0 6)),.op 3 (p 8 (.faddr 0 7)),.op 4 (r 9 (.load none 8)),.op 5 (p 10
 (.mov 0)),.op 6 (p 11 (.nilck 10)),.op 7 (p 12 (.faddr 0 11)),.op 8 (p 13 (.faddr 1 12)),.op 9 (r 14 (.load none 13)),.op 10 (p 15 (.mov 0)),.op 11 (p 16 (.nilck 15)),.op 12
 (p 17 (.faddr 0 16)),.op 13 (p 18 (.faddr 1 17)),.op 14 (r 19 (.load none 18)),.op 15 (p 20 (.bin .add 19 (.k (.int .i64 1)))),.op 16 (p 21 (.subS 9 (some 14) (some 20))),.op 17
 (w 22 (.call (.k (.fn 209 [] [])) [(.k (.int .i64 3)),21,(.k (.int .i64 1))])),.op 18 (p 23 (.extr 0 22)),.op 19 (p 24 (.extr 1 22)),.op 20 (p 25 (.extr 2 22)),.op 21 (w0 (.store
 3 2 23)),.op 22 (p 3 (.mov 24)),.op 23 (p 4 (.mov 25))]) .ret))⟩
def scan_reader_less:MFun:=⟨1,[.cell 2 (some 3),.t 3,.t 4],(.seq (.reg [n 2 (.alloc 134 true [(.int .i64 0),(.int .i64 0),(.str [])]),p 3 (.mov (.k (.int .i64 0))),p 4 (.mov
 (.k (.int .i64 0)))]) (.seq (.seq (.reg [p 10 (.mov 0),w 11 (.call (.k (.fn 210 [] [])) [10,(.k (.int .u8 60))])]) (.cond 11 (.seq (.reg [w 12 (.call (.k (.fn 209 [] [])) [(.k (.int
 .i64 3)),(.k (.str [60,60])),(.k (.int .i64 2))]),p 13 (.extr 0 12),p 14 (.extr 1 12),p 15 (.extr 2 12),w0 (.store 3 2 13),p 3 (.mov 14),p 4 (.mov 15)]) .ret) .skip)) (.seq
 (.keep [0,2]) (.seq (.reg [p 5 (.mov (.k (.int .i64 1))),p 6 (.mov (.k (.fn 211 [] [])))]) (.seq (.seq (.reg [p 16 (.mov 0),w 17 (.call (.k (.fn 210 [] [])) [16,(.k (.int .u8 126))])])
 (.cond 17 (.reg [p 5 (.mov (.k (.int .i64 2))),p 6 (.mov (.k (.fn 212 [] [])))]) .skip)) (.seq (.regd [.op 1 (p 20 (.mov 0)),.op 2 (p 21 (.nilck 20)),.op 3 (p 22 (.faddr 0 21)),
 .op 4 (p 23 (.faddr 0 22)),.op 5 (r 24 (.load none 23)),.op 6 (p 25 (.mov 0)),.op 7 (p 26 (.nilck 25)),.op 8 (p 27 (.faddr 0 26)),.op 9 (p 28 (.faddr 1 27)),.op 10 (r 29 (.load
 none 28)),.op 0 (p 19 (.mov 6)),.op 11 (p 30 (.mov 5)),.op 12 (p 31 (.bin .add 29 30)),.op 13 (p 32 (.subS 24 (some 31) none)),.op 14 (w 33 (.call 19 [32])),.op 15 (p 18 (.mov
 33)),.op 16 (p 34 (.extr 0 18)),.op 17 (p 35 (.extr 1 18)),.op 18 (p 36 (.extr 2 18)),.op 19 (p 7 (.mov 34)),.op 20 (p 8 (.mov 35)),.op 21 (p 9 (.mov 36))]) (.seq (.keep [2,5,
 7,8,9]) (.seq (.seq (.reg [p 37 (.mov 9)]) (.block 0 (.seq (.reg [p 39 (.bin .eql 37 (.k (.int .i64 0))),p 38 (.mov 39)]) (.cond 38 (.seq (.reg [p 40 (.mov 7),p 41 (.mov 5),p 42
 (.mov 8),p 43 (.bin .add 41 42),w 44 (.call (.k (.fn 209 [] [])) [(.k (.int .i64 6)),40,43]),p 45 (.extr 0 44),p 46 (.extr 1 44),p 47 (.extr 2 44),w0 (.store 3 2 45),p 3 (.mov
 46),p 4 (.mov 47)]) .ret) (.seq (.reg [p 49 (.bin .eql 37 (.k (.int .i64 3))),p 48 (.mov 49)]) (.cond 48 (.seq (.reg [p 50 (.build [(.int .i64 0),(.int .i64 0),(.str [])] []),w0
 (.store 3 2 50),p 3 (.mov (.k (.int .i64 0))),p 4 (.mov (.k (.int .i64 26)))]) .ret) .skip)))))) (.seq (.keep [2]) (.seq (.reg [p 51 (.build [(.int .i64 0),(.int .i64 0),(.str [])]
 []),w0 (.store 3 2 51),p 3 (.mov (.k (.int .i64 0))),p 4 (.mov (.k (.int .i64 37)))]) .ret))))))))))⟩
def scan_reader_greater:MFun:=⟨1,[.cell 2 (some 3),.t 3,.t 4],(.seq (.reg [n 2 (.alloc 134 true [(.int .i64 0),(.int .i64 0),(.str [])]),p 3 (.mov (.k (.int .i64 0))),p
 4 (.mov (.k (.int .i64 0)))]) (.seq (.seq (.reg [p 5 (.mov 0),w 6 (.call (.k (.fn 210 [] [])) [5,(.k (.int .u8 62))])]) (.cond 6 (.seq (.reg [w 7 (.call (.k (.fn 209 [] [])) [(.k
 (.int .i64 3)),(.k (.str [62,62])),(.k (.int .i64 2))]),p 8 (.extr 0 7),p 9 (.extr 1 7),p 10 (.extr 2 7),w0 (.store 3 2 8),p 3 (.mov 9),p 4 (.mov 10)]) .ret) .skip)) (.seq
 (.keep [2]) (.seq (.reg [p 11 (.build [(.int .i64 0),(.int .i64 0),(.str [])] []),w0 (.store 3 2 11),p 3 (.mov (.k (.int .i64 0))),p 4 (.mov (.k (.int .i64 37)))]) .ret))))⟩
def scan_reader_slash:MFun:=⟨1,[.cell 2 (some 3),.t 3,.t 4],(.seq (.reg [n 2 (.alloc 134 true [(.int .i64 0),(.int .i64 0),(.str [])]),p 3 (.mov (.k (.int .i64 0))),p 4
 (.mov (.k (.int .i64 0)))]) (.seq (.reg [p 5 (.mov (.k (.int .i64 4))),p 6 (.mov (.k (.int .i64 1)))]) (.seq (.seq (.reg [p 9 (.mov 0),w 10 (.call (.k (.fn 210 [] [])) [9,(.k (.int
 .u8 47))])]) (.cond 10 (.reg [p 5 (.mov (.k (.int .i64 5))),p 6 (.mov (.k (.int .i64 2)))]) .skip)) (.seq (.regd [.op 0 (p 11 (.mov 0)),.op 1 (p 12 (.nilck 11)),.op 2 (p 13 (.faddr
 0 12)),.op 3 (p 14 (.faddr 0 13)),.op 4 (r 15 (.load none 14)),.op 5 (p 16 (.mov 0)),.op 6 (p 17 (.nilck 16)),.op 7 (p 18 (.faddr 0 17)),.op 8 (p 19 (.faddr 1 18)),.op 9 (r 20
 (.load none 19)),.op 10 (p 21 (.mov 6)),.op 11 (p 22 (.bin .add 20 21)),.op 12 (p 23 (.subS 15 (some 22) none)),.op 13 (p 7 (.mov 23))]) (.seq (.keep [2,5,6,7]) (.seq (.reg [p
 24 (.mov 7),w 25 (.call (.k (.fn 182 [] [])) [24,(.k (.fn 67 [] []))]),p 8 (.mov 25)]) (.seq (.reg [p 26 (.mov 5),p 27 (.mov 7),p 28 (.mov 8),p 29 (.subS 27 none (some 28)),p
 30 (.mov 6),p 31 (.mov 8),p 32 (.bin .add 30 31),w 33 (.call (.k (.fn 209 [] [])) [26,29,32]),p 34 (.extr 0 33),p 35 (.extr 1 33),p 36 (.extr 2 33),w0 (.store 3 2 34),p 3
 (.mov 35),p 4 (.mov 36)]) .ret)))))))⟩
def scan_reader_fixed:MFun:=⟨3,[.cell 6 (some 3),.t 7,.t 8],(.seq (.reg [n 6 (.alloc 134 true [(.int .i64 0),(.int .i64 0),(.str [])]),p 7 (.mov (.k (.int .i64 0))),p 8
 (.mov (.k (.int .i64 0)))]) (.seq (.regd [.op 0 (p 10 (.mov 0)),.op 1 (p 11 (.nilck 10)),.op 2 (p 12 (.faddr 0 11)),.op 3 (p 13 (.faddr 0 12)),.op 4 (r 14 (.load none 13)),.op
 5 (p 15 (.mov 0)),.op 6 (p 16 (.nilck 15)),.op 7 (p 17 (.faddr 0 16)),.op 8 (p 18 (.faddr 1 17)),.op 9 (r 19 (.load none 18)),.op 10 (p 20 (.bin .add 19 (.k (.int .i64 1)))),.op
 11 (p 21 (.subS 14 (some 20) none)),.op 12 (p 9 (.mov 21))]) (.seq (.keep [0,1,2,6,9]) (.seq (.seq (.reg [p 22 (.mov 9),p 23 (.lenOf true 22),p 24 (.mov 2),p 25 (.bin .lss 23
 24)]) (.cond 25 (.seq (.reg [p 26 (.mov 0),w 27 (.call (.k (.fn 194 [] [])) [26]),p 28 (.extr 0 27),p 29 (.extr 1 27),p 30 (.extr 2 27),w0 (.store 3 6 28),p 7 (.mov 29),p 8 (.mov
 30)]) .ret) .skip)) (.seq (.keep [1,2,6,9]) (.seq (.reg [p 31 (.mov 1),p 32 (.mov 9),p 33 (.mov 2),p 34 (.subS 32 none (some 33)),w 35 (.call (.k (.fn 213 [] [])) [34]),p 36
 (.build [(.int .i64 0),(.int .i64 0),(.str [])] [(0,1,31),(1,1,35)]),p 37 (.mov 2),p 38 (.bin .add (.k (.int .i64 1)) 37),w0 (.store 3 6 36),p 7 (.mov 38),p 8 (.mov (.k
 (.int .i64 0)))]) .ret))))))⟩
def scan_reader_counted_l0:MCode:=(.seq (.keep [0,1,2,6,9,10,33,34]) (.seq (.reg [p 35 (.bin .lss 34 33)]) (.seq (.cond 35 .skip (.exit 0)) (.seq (.block 1 (.seq (.reg [p
 36 (.mov 34),p 11 (.mov 36)]) (.reg [p 37 (.mov 10),p 38 (.bin .shl 37 (.k (.int .u64 8))),p 39 (.mov 9),p 40 (.mov 11),p 41 (.idxS 39 40),p 42 (.conv .i64 41),p 43 (.bin .or
 38 42),p 10 (.mov 43)]))) (.seq (.keep [0,1,2,6,9,10,33,34]) (.reg [p 44 (.bin .add 34 (.k (.int .i64 1))),p 34 (.mov 44)]))))))
def scan_reader_counted:MFun:=⟨3,[.cell 6 (some 3),.t 7,.t 8],(.seq (.reg [n 6 (.alloc 134 true [(.int .i64 0),(.int .i64 0),(.str [])]),p 7 (.mov (.k (.int .i64 0))),p
 8 (.mov (.k (.int .i64 0)))]) (.seq (.regd [.op 0 (p 12 (.mov 0)),.op 1 (p 13 (.nilck 12)),.op 2 (p 14 (.faddr 0 13)),.op 3 (p 15 (.faddr 0 14)),.op 4 (r 16 (.load none 15)),.op
 5 (p 17 (.mov 0)),.op 6 (p 18 (.nilck 17)),.op 7 (p 19 (.faddr 0 18)),.op 8 (p 20 (.faddr 1 19)),.op 9 (r 21 (.load none 20)),.op 10 (p 22 (.bin .add 21 (.k (.int .i64 1)))),.op
 11 (p 23 (.subS 16 (some 22) none)),.op 12 (p 9 (.mov 23))]) (.seq (.keep [0,1,2,6,9]) (.seq (.seq (.reg [p 24 (.mov 9),p 25 (.lenOf true 24),p 26 (.mov 2),p 27 (.bin .lss 25
 26)]) (.cond 27 (.seq (.reg [p 28 (.mov 0),w 29 (.call (.k (.fn 194 [] [])) [28]),p 30 (.extr 0 29),p 31 (.extr 1 29),p 32 (.extr 2 29),w0 (.store 3 6 30),p 7 (.mov 31),p 8 (.mov
 32)]) .ret) .skip)) (.seq (.keep [0,1,2,6,9]) (.seq (.reg [p 10 (.mov (.k (.int .i64 0)))]) (.seq (.seq (.reg [p 33 (.mov 2),p 34 (.mov (.k (.int .i64 0)))]) (.block 0 (.loop scan_reader_counted_l0)))
 (.seq (.keep [0,1,2,6,9,10]) (.seq (.reg [p 45 (.mov 9),p 46 (.mov 2),p 47 (.subS 45 (some 46) none),p 9 (.mov 47)]) (.seq (.seq (.reg [p 48 (.mov 9),p 49 (.lenOf true 48),
 p 50 (.mov 10),p 51 (.bin .lss 49 50)]) (.cond 51 (.seq (.reg [p 52 (.mov 0),w 53 (.call (.k (.fn 194 [] [])) [52]),p 54 (.extr 0 53),p 55 (.extr 1 53),p 56 (.extr 2 53),w0 (.store
 3 6 54),p 7 (.mov 55),p 8 (.mov 56)]) .ret) .skip)) (.seq (.keep [1,2,6,9,10]) (.seq (.reg [p 57 (.mov 1),p 58 (.mov 9),p 59 (.mov 10),p 60 (.subS 58 none (some 59)),p 61
 (.mov 2),p 62 (.bin .add (.k (.int .i64 1)) 61),p 63 (.mov 10),p 64 (.bin .add 62 63),w 65 (.call (.k (.fn 209 [] [])) [57,60,64]),p 66 (.extr 0 65),p 67 (.extr 1 65),p 68
 (.extr 2 65),w0 (.store 3 6 66),p 7 (.mov 67),p 8 (.mov 68)]) .ret))))))))))))⟩
def chaseref02_ends_l0:MCode:=(.seq (.keep [0,1]) (.seq (.seq (.reg [p 5 (.mov 1),p 6 (.mov 0),p 7 (.lenOf true 6),p 8 (.bin .lss 5 7),p 9 (.mov 8),pg 10 9 true (.mov 0),
 pg 11 9 true (.mov 1),pg 12 9 true (.idxS 10 11),wg 13 9 true (.call (.k (.fn 85 [] [])) [12]),p 14 (.pick 9 13 (.k (.bool false)))]) (.cond 14 .skip (.exit 0))) (.seq (.keep [0,
 1]) (.block 1 (.reg [p 15 (.mov 1),p 16 (.bin .add 15 (.k (.int .i64 1))),p 1 (.mov 16)])))))
def chaseref02_ends:MFun:=⟨2,[.t 4],(.seq (.reg [p 4 (.mov (.k (.int .i64 0)))]) (.seq (.block 0 (.loop chaseref02_ends_l0)) (.seq (.keep [0,1]) (.seq (.seq (.reg [p 17 (.mov
 1),p 18 (.mov 0),p 19 (.lenOf true 18),p 20 (.bin .lss 17 19),p 21 (.mov 20),pg 22 21 true (.mov 0),pg 23 21 true (.mov 1),pg 24 21 true (.idxS 22 23),pg 25 21 true (.bin .eql
 24 (.k (.int .u8 62))),p 26 (.pick 21 25 (.k (.bool false)))]) (.seq (.keep [1,26]) (.cond 26 (.seq (.reg [p 27 (.mov 1),p 28 (.bin .add 27 (.k (.int .i64 1))),p 4 (.mov 28)]) .ret)
 .skip))) (.seq (.keep []) (.seq (.reg [p 4 (.mov (.k (.int .i64 (-1))))]) .ret))))))⟩
def chaseref02_unit_l0:MCode:=(.seq (.keep [0,3,4]) (.seq (.seq (.reg [p 6 (.mov 4),p 7 (.bin .lss 6 (.k (.int .i64 5)))]) (.cond 7 .skip (.exit 0))) (.seq (.block 1 (.seq (.reg
 [p 5 (.mov (.k (.int .i64 117)))]) (.seq (.seq (.reg [p 10 (.mov 4),p 11 (.mov 0),p 12 (.lenOf false 11),p 13 (.bin .lss 10 12)]) (.cond 13 (.reg [p 14 (.mov 0),p 15 (.mov 4),p
 16 (.iaddrS 1 14 15),r 17 (.load none 16),p 18 (.conv .i64 17),p 5 (.mov 18)]) .skip)) (.seq (.keep [0,3,4,5]) (.reg [p 19 (.mov 3),p 20 (.bin .mul 19 (.k (.int .i64 85))),p
 21 (.mov 5),p 22 (.bin .add 20 21),p 23 (.bin .sub 22 (.k (.int .i64 33))),p 3 (.mov 23)]))))) (.seq (.keep [0,3,4]) (.reg [p 8 (.mov 4),p 9 (.bin .add 8 (.k (.int .i64 1))),
 p 4 (.mov 9)])))))
def chaseref02_unit:MFun:=⟨1,[.t 2],(.seq (.reg [p 2 (.mov (.k (.int .i64 0)))]) (.seq (.reg [p 3 (.mov (.k (.int .i64 0)))]) (.seq (.seq (.reg [p 4 (.mov (.k (.int .i64 0)))])
 (.block 0 (.loop chaseref02_unit_l0))) (.seq (.keep [3]) (.seq (.reg [p 24 (.mov 3),p 2 (.mov 24)]) .ret)))))⟩
def chaseref02_four:MFun:=⟨1,[.t 2],(.seq (.reg [p 2 (.mov (.k .nilslice))]) (.seq (.reg [p 3 (.mov 0),p 4 (.bin .quo 3 (.k (.int .i64 16777216))),p 5 (.conv .u8 4),p 6 (.mov
 0),p 7 (.bin .quo 6 (.k (.int .i64 65536))),p 8 (.bin .rem 7 (.k (.int .i64 256))),p 9 (.conv .u8 8),p 10 (.mov 0),p 11 (.bin .quo 10 (.k (.int .i64 256))),p 12 (.bin .rem 11
 (.k (.int .i64 256))),p 13 (.conv .u8 12),p 14 (.mov 0),p 15 (.bin .rem 14 (.k (.int .i64 256))),p 16 (.conv .u8 15),n 17 (.buildSl 5 4 [(.int .u8 0),(.int .u8 0),(.int .u8 0),
 (.int .u8 0)] [(0,1,5),(1,1,9),(2,1,13),(3,1,16)]),p 2 (.mov 17)]) .ret))⟩
def chaseref02_finish:MFun:=⟨2,[.t 4,.t 5,.t 6],(.seq (.reg [p 4 (.mov (.k (.str []))),p 5 (.mov (.k (.int .i64 0))),p 6 (.mov (.k (.int .i64 0)))]) (.seq (.seq (.reg [p 7
 (.mov 0),p 8 (.lenOf false 7),p 9 (.bin .gtr 8 (.k (.int .i64 65536)))]) (.cond 9 (.seq (.reg [p 4 (.mov (.k (.str []))),p 5 (.mov (.k (.int .i64 0))),p 6 (.mov (.k (.int .i64 3)))])
 .ret) .skip)) (.seq (.reg [p 10 (.mov 0),r 11 (.b2s 10),p 12 (.mov 1),p 4 (.mov 11),p 5 (.mov 12),p 6 (.mov (.k (.int .i64 0)))]) .ret)))⟩
def chaseref02_Value:MFun:=⟨1,[.t 2],(.seq (.reg [p 2 (.mov (.k (.int .i64 0)))]) (.seq (.seq (.reg [p 3 (.mov 0),p 4 (.bin .geq 3 (.k (.int .u8 48))),p 5 (.mov 4),pg 6 5 true
 (.mov 0),pg 7 5 true (.bin .leq 6 (.k (.int .u8 57))),p 8 (.pick 5 7 (.k (.bool false)))]) (.cond 8 (.seq (.reg [p 9 (.mov 0),p 10 (.bin .sub 9 (.k (.int .u8 48))),p 11 (.conv .i64
 10),p 2 (.mov 11)]) .ret) .skip)) (.seq (.keep [0]) (.seq (.seq (.reg [p 12 (.mov 0),p 13 (.bin .geq 12 (.k (.int .u8 65))),p 14 (.mov 13),pg 15 14 true (.mov 0),pg 16 14 true
 (.bin .leq 15 (.k (.int .u8 70))),p 17 (.pick 14 16 (.k (.bool false)))]) (.cond 17 (.seq (.reg [p 18 (.mov 0),p 19 (.bin .sub 18 (.k (.int .u8 65))),p 20 (.conv .i64 19),p 21 (.bin
 .add 20 (.k (.int .i64 10))),p 2 (.mov 21)]) .ret) .skip)) (.seq (.keep [0]) (.seq (.seq (.reg [p 22 (.mov 0),p 23 (.bin .geq 22 (.k (.int .u8 97))),p 24 (.mov 23),pg 25 24 true
 (.mov 0),pg 26 24 true (.bin .leq 25 (.k (.int .u8 102))),p 27 (.pick 24 26 (.k (.bool false)))]) (.cond 27 (.seq (.reg [p 28 (.mov 0),p 29 (.bin .sub 28 (.k (.int .u8 97))),p 30
 (.conv .i64 29),p 31 (.bin .add 30 (.k (.int .i64 10))),p 2 (.mov 31)]) .ret) .skip)) (.seq (.keep []) (.seq (.reg [p 2 (.mov (.k (.int .i64 (-1))))]) .ret))))))))⟩
def chaseref04_signed_l0:MCode:=(.seq (.keep [0,3,4,5]) (.seq (.seq (.reg [p 8 (.mov 5),p 9 (.mov 0),p 10 (.lenOf true 9),p 11 (.bin .lss 8 10)]) (.cond 11 .skip (.exit 0)))
 (.seq (.block 1 (.reg [p 14 (.mov 4),p 15 (.bin .mul 14 (.k (.int .i64 256))),p 4 (.mov 15)])) (.reg [p 12 (.mov 5),p 13 (.bin .add 12 (.k (.int .i64 1))),p 5 (.mov 13)]))))
def chaseref04_signed:MFun:=⟨1,[.t 2],(.seq (.reg [p 2 (.mov (.k (.int .i64 0)))]) (.seq (.reg [p 6 (.mov 0),w 7 (.call (.k (.fn 208 [] [])) [6]),p 3 (.mov 7),p 4 (.mov (.k
 (.int .i64 1)))]) (.seq (.seq (.reg [p 5 (.mov (.k (.int .i64 0)))]) (.block 0 (.loop chaseref04_signed_l0))) (.seq (.keep [3,4]) (.seq (.seq (.reg [p 16 (.mov 3),p 17 (.mov 4),p
 18 (.bin .quo 17 (.k (.int .i64 2))),p 19 (.bin .geq 16 18)]) (.cond 19 (.reg [p 20 (.mov 3),p 21 (.mov 4),p 22 (.bin .sub 20 21),p 3 (.mov 22)]) .skip)) (.seq (.keep [3]) (.seq
 (.reg [p 23 (.mov 3),p 2 (.mov 23)]) .ret)))))))⟩
def chaseref04_unsigned_l0:MCode:=(.seq (.keep [0,3,4]) (.seq (.seq (.reg [p 5 (.mov 4),p 6 (.mov 0),p 7 (.lenOf true 6),p 8 (.bin .lss 5 7)]) (.cond 8 .skip (.exit 0))) (.seq
 (.block 1 (.reg [p 11 (.mov 3),p 12 (.bin .mul 11 (.k (.int .i64 256))),p 13 (.mov 0),p 14 (.mov 4),p 15 (.idxS 13 14),p 16 (.conv .i64 15),p 17 (.bin .add 12 16),p 3 (.mov 17)]))
 (.seq (.keep [0,3,4]) (.reg [p 9 (.mov 4),p 10 (.bin .add 9 (.k (.int .i64 1))),p 4 (.mov 10)])))))
def chaseref04_unsigned:MFun:=⟨1,[.t 2],(.seq (.reg [p 2 (.mov (.k (.int .i64 0)))]) (.seq (.reg [p 3 (.mov (.k (.int .i64 0)))]) (.seq (.seq (.reg [p 4 (.mov (.k (.int .i64 0)))])
 (.block 0 (.loop chaseref04_unsigned_l0))) (.seq (.keep [3]) (.seq (.reg [p 18 (.mov 3),p 2 (.mov 18)]) .ret)))))⟩
def scan_text:MFun:=⟨3,[.cell 6 (some 3),.t 7,.t 8],(.seq (.reg [n 6 (.alloc 134 true [(.int .i64 0),(.int .i64 0),(.str [])]),p 7 (.mov (.k (.int .i64 0))),p 8 (.mov (.k
 (.int .i64 0)))]) (.seq (.reg [p 10 (.mov 0),p 11 (.mov 1),p 12 (.build [(.int .i64 0),(.int .i64 0),(.str [])] [(0,1,10),(2,1,11)]),n 9 (.alloc 134 true [(.int .i64 0),(.int
 .i64 0),(.str [])]),w0 (.store 3 9 12)]) (.seq (.block 0 (.seq (.seq (.reg [p 14 (.mov 0),p 15 (.bin .eql 14 (.k (.int .i64 6))),p 16 (.mov 15),pg 17 16 true (.mov 1),pg 18 16
 true (.lenOf true 17),pg 19 16 true (.bin .gtr 18 (.k (.int .i64 1000))),p 20 (.pick 16 19 (.k (.bool false))),p 13 (.mov 20)]) (.seq (.keep [0,1,2,6,9,13]) (.cond 13 .skip
 (.reg [p 21 (.mov 0),p 22 (.bin .neq 21 (.k (.int .i64 6))),p 23 (.mov 22),pg 24 23 true (.mov 1),pg 25 23 true (.lenOf true 24),pg 26 23 true (.bin .gtr 25 (.k (.int .i64 100))),
 p 27 (.pick 23 26 (.k (.bool false))),p 13 (.mov 27)])))) (.seq (.keep [2,6,9,13]) (.cond 13 (.seq (.reg [p 28 (.build [(.int .i64 0),(.int .i64 0),(.str [])] []),w0 (.store
 3 6 28),p 7 (.mov (.k (.int .i64 0))),p 8 (.mov (.k (.int .i64 26)))]) .ret) (.seq (.reg [r 30 (.load (some 3) 9),w 31 (.call (.k (.fn 74 [] [])) [30]),p 32 (.bin .neq 31 (.k (.int
 .i64 0))),p 29 (.mov 32)]) (.cond 29 (.seq (.reg [p 33 (.build [(.int .i64 0),(.int .i64 0),(.str [])] []),w0 (.store 3 6 33),p 7 (.mov (.k (.int .i64 0))),p 8 (.mov (.k (.int
 .i64 37)))]) .ret) .skip)))))) (.seq (.keep [2,6,9]) (.seq (.reg [r 34 (.load (some 3) 9),p 35 (.mov 2),w0 (.store 3 6 34),p 7 (.mov 35),p 8 (.mov (.k (.int .i64 0)))]) .ret)))))⟩
def scan_reader_follows:MFun:=⟨2,[.t 4],(.seq (.reg [p 4 (.mov (.k (.bool false)))]) (.seq (.regd [.op 0 (p 5 (.mov 0)),.op 1 (p 6 (.nilck 5)),.op 2 (p 7 (.faddr 0 6)),.op
 3 (p 8 (.faddr 1 7)),.op 4 (r 9 (.load none 8)),.op 6 (p 11 (.mov 0)),.op 7 (p 12 (.nilck 11)),.op 8 (p 13 (.faddr 0 12)),.op 9 (p 14 (.faddr 0 13)),.op 10 (r 15 (.load none 14)),
 .op 5 (p 10 (.bin .add 9 (.k (.int .i64 1)))),.op 11 (p 16 (.lenOf true 15)),.op 12 (p 17 (.bin .lss 10 16)),.op 13 (p 18 (.mov 17)),.op 14 (pg 19 18 true (.mov 0)),.op 15 (pg
 20 18 true (.nilck 19)),.op 16 (pg 21 18 true (.faddr 0 20)),.op 17 (pg 22 18 true (.faddr 0 21)),.op 18 (rg 23 18 true (.load none 22)),.op 19 (pg 24 18 true (.mov 0)),.op 20
 (pg 25 18 true (.nilck 24)),.op 21 (pg 26 18 true (.faddr 0 25)),.op 22 (pg 27 18 true (.faddr 1 26)),.op 23 (rg 28 18 true (.load none 27)),.op 24 (pg 29 18 true (.bin .add 28
 (.k (.int .i64 1)))),.op 25 (pg 30 18 true (.idxS 23 29)),.op 26 (pg 31 18 true (.mov 1)),.op 27 (pg 32 18 true (.bin .eql 30 31)),.op 28 (p 33 (.pick 18 32 (.k (.bool false)))),
 .op 29 (p 4 (.mov 33))]) .ret))⟩
def ascii_Unhex:MFun:=⟨1,[.t 2,.t 3,.t 4],(.seq (.reg [p 2 (.mov (.k (.str []))),p 3 (.mov (.k (.int .i64 0))),p 4 (.mov (.k (.int .i64 0)))]) (.seq (.reg [p 5 (.mov 0),p
 6 (.build [(.int .i64 0),(.bool false)] []),n 7 (.box 301 false 6),w 8 (.call (.k (.fn 214 [] [])) [5,7,(.k (.fn 215 [] []))]),p 9 (.extr 0 8),p 10 (.extr 1 8),p 11 (.extr 2
 8),p 2 (.mov 9),p 3 (.mov 10),p 4 (.mov 11)]) .ret))⟩
def ascii_Unbase85:MFun:=⟨1,[.t 2,.t 3,.t 4],(.seq (.reg [p 2 (.mov (.k (.str []))),p 3 (.mov (.k (.int .i64 0))),p 4 (.mov (.k (.int .i64 0)))]) (.seq (.reg [p 5 (.mov 0),
 p 6 (.build [.nilslice,(.bool false)] []),n 7 (.box 307 false 6),w 8 (.call (.k (.fn 216 [] [])) [5,7,(.k (.fn 217 [] []))]),p 9 (.extr 0 8),p 10 (.extr 1 8),p 11 (.extr 2 8),
 p 2 (.mov 9),p 3 (.mov 10),p 4 (.mov 11)]) .ret))⟩
def scan_number_l0:MCode:=(.seq (.keep [0,3,9,10]) (.seq (.reg [p 11 (.bin .lss 10 9)]) (.seq (.cond 11 .skip (.exit 0)) (.seq (.block 1 (.seq (.reg [p 12 (.mov 10),p 4 (.mov
 12)]) (.reg [p 13 (.mov 3),p 14 (.bin .shl 13 (.k (.int .u64 8))),p 15 (.mov 0),p 16 (.mov 4),p 17 (.idxS 15 16),p 18 (.conv .i64 17),p 19 (.bin .or 14 18),p 3 (.mov 19)])))
 (.seq (.keep [0,3,9,10]) (.reg [p 20 (.bin .add 10 (.k (.int .i64 1))),p 10 (.mov 20)]))))))
def scan_number:MFun:=⟨1,[.t 2],(.seq (.reg [p 2 (.mov (.k (.int .i64 0)))]) (.seq (.reg [p 3 (.mov (.k (.int .i64 0)))]) (.seq (.seq (.reg [p 5 (.mov 0),p 6 (.idxS 5 (.k (.int
 .i64 0))),p 7 (.bin .geq 6 (.k (.int .u8 128)))]) (.cond 7 (.reg [p 3 (.mov (.k (.int .i64 (-1))))]) .skip)) (.seq (.seq (.reg [p 8 (.mov 0),p 9 (.lenOf true 8),p 10 (.mov (.k (.int
 .i64 0)))]) (.block 0 (.loop scan_number_l0))) (.seq (.keep [3]) (.seq (.reg [p 21 (.mov 3),p 2 (.mov 21)]) .ret))))))⟩
def ascii_read_ascii_half_l0:MCode:=(.block 1 (.seq (.reg [r 24 (.load none 5),r 25 (.load none 4),p 26 (.mov 13),r 27 (.load none 10),w 28 (.call 24 [25,26,27])]) (.block
 2 (.seq (.reg [p 30 (.bin .eql 28 (.k (.int .i64 1))),p 29 (.mov 30)]) (.cond 29 (.seq (.reg [p 31 (.mov 12),p 32 (.bin .add 31 (.k (.int .i64 1))),w0 (.store 1 11 32)]) (.exit 0))
 (.seq (.reg [p 34 (.bin .eql 28 (.k (.int .i64 2))),p 33 (.mov 34)]) (.cond 33 (.seq (.reg [w0 (.store 1 6 (.k (.str []))),w0 (.store 1 7 (.k (.int .i64 0))),w0 (.store 1 8 (.k (.int
 .i64 5)))]) .ret) .skip)))))))
def ascii_read_ascii_half:MFun:=⟨3,[.cell 6 none,.cell 7 none,.cell 8 none],(.seq (.reg [n 4 (.box 302 true 1),n 5 (.box 303 true 2),n 6 (.alloc 9 true [(.str [])]),n 7 (.alloc
 3 true [(.int .i64 0)]),n 8 (.alloc 30 true [(.int .i64 0)])]) (.scope (.seq (.seq (.reg [p 16 (.mov 0),p 17 (.lenOf true 16),p 18 (.bin .gtr 17 (.k (.int .i64 65536)))]) (.cond
 18 (.seq (.reg [w0 (.store 1 6 (.k (.str []))),w0 (.store 1 7 (.k (.int .i64 0))),w0 (.store 1 8 (.k (.int .i64 3)))]) .ret) .skip)) (.seq (.reg [n 9 (.alloc 35 false [.nilslice])])
 (.seq (.reg [p 19 (.mkfn 218 [] [9]),n 10 (.alloc 310 true [.nilfn]),w0 (.store 1 10 19)]) (.seq (.reg [n 11 (.alloc 3 true [(.int .i64 0)]),w0 (.store 1 11 (.k (.int .i64 0)))])
 (.seq .skip (.seq (.seq (.reg [p 20 (.mov 0),w 21 (.call (.k (.fn 219 [] [])) [20])]) (.block 0 (.rangeFunc 21 [22,23] (.seq (.reg [p 12 (.mov 22)]) (.reg [p 13 (.mov 23)])) ascii_read_ascii_half_l0)))
 (.seq (.keep [6,7,8,9,11]) (.seq (.seq (.reg [r 35 (.load none 11),p 36 (.bin .eql 35 (.k (.int .i64 0)))]) (.cond 36 (.seq (.reg [w0 (.store 1 6 (.k (.str []))),w0 (.store 1
 7 (.k (.int .i64 0))),w0 (.store 1 8 (.k (.int .i64 5)))]) .ret) .skip)) (.seq (.reg [r 38 (.load none 9),r 39 (.b2s 38),w 40 (.call (.k (.fn 220 [] [])) [39]),p 37 (.mov 40),p
 41 (.extr 0 37),p 42 (.extr 1 37),p 14 (.mov 41),p 15 (.mov 42)]) (.seq (.keep [6,7,8,11,14,15]) (.seq (.seq (.reg [p 43 (.mov 15),p 44 (.bin .neq 43 (.k (.int .i64 0)))])
 (.cond 44 (.seq (.reg [p 45 (.mov 15),w0 (.store 1 6 (.k (.str []))),w0 (.store 1 7 (.k (.int .i64 0))),w0 (.store 1 8 45)]) .ret) .skip)) (.seq (.regd [.op 1 (r 47 (.load none 11)),
 .op 0 (p 46 (.mov 14)),.op 2 (w0 (.store 1 6 46)),.re 1,.op 3 (w0 (.store 1 7 47)),.op 4 (w0 (.store 1 8 (.k (.int .i64 0))))]) .ret))))))))))))))⟩
def ascii_half_take:MFun:=⟨3,[.t 6],(.seq (.reg [p 6 (.mov (.k (.int .i64 0)))]) (.seq (.reg [p 8 (.mov 1),w 9 (.call (.k (.fn 221 [] [])) [8]),p 7 (.mov 9)]) (.seq (.block
 0 (.seq (.reg [p 11 (.mov 1),p 12 (.bin .eql 11 (.k (.int .u8 62))),p 10 (.mov 12)]) (.cond 10 (.seq (.seq (.reg [p 13 (.mov 0),p 14 (.nilck 13),p 15 (.faddr 1 14),r 16 (.load
 none 15)]) (.cond 16 (.reg [p 17 (.mov 2),p 18 (.mov 0),p 19 (.nilck 18),p 20 (.faddr 0 19),r 21 (.load none 20),p 22 (.bin .shl 21 (.k (.int .u64 4))),p 23 (.conv .u8 22),n
 24 (.buildSl 5 1 [(.int .u8 0)] [(0,1,23)]),w 25 (.call 17 [24])]) .skip)) (.seq (.keep []) (.seq (.reg [p 6 (.mov (.k (.int .i64 1)))]) .ret))) (.seq (.reg [p 27 (.mov 7),p 28
 (.bin .lss 27 (.k (.int .i64 0))),p 26 (.mov 28)]) (.cond 26 (.seq (.reg [p 6 (.mov (.k (.int .i64 2)))]) .ret) (.seq (.reg [p 30 (.mov 0),p 31 (.nilck 30),p 32 (.faddr 1 31),r
 33 (.load none 32),p 29 (.mov 33)]) (.cond 29 (.reg [p 34 (.mov 2),p 35 (.mov 0),p 36 (.nilck 35),p 37 (.faddr 0 36),r 38 (.load none 37),p 39 (.bin .shl 38 (.k (.int .u64 4))),
 p 40 (.mov 7),p 41 (.bin .or 39 40),p 42 (.conv .u8 41),n 43 (.buildSl 5 1 [(.int .u8 0)] [(0,1,42)]),w 44 (.call 34 [43])]) .skip))))))) (.seq (.keep [0,7]) (.seq (.reg [p 45
 (.mov 0),p 46 (.mov 0),p 47 (.mov 7),p 48 (.mov 0),p 49 (.nilck 48),p 50 (.faddr 1 49),r 51 (.load none 50),p 52 (.un .not 51),p 53 (.nilck 45),p 54 (.faddr 0 53),w0 (.store
 1 54 47),p 55 (.nilck 46),p 56 (.faddr 1 55),w0 (.store 1 56 52)]) (.seq (.keep []) (.seq (.reg [p 6 (.mov (.k (.int .i64 0)))]) .ret)))))))⟩
def ascii_read_ascii_tens_l0:MCode:=(.block 1 (.seq (.reg [r 24 (.load none 5),r 25 (.load none 4),p 26 (.mov 13),r 27 (.load none 10),w 28 (.call 24 [25,26,27])]) (.block
 2 (.seq (.reg [p 30 (.bin .eql 28 (.k (.int .i64 1))),p 29 (.mov 30)]) (.cond 29 (.seq (.reg [p 31 (.mov 12),p 32 (.bin .add 31 (.k (.int .i64 1))),w0 (.store 1 11 32)]) (.exit 0))
 (.seq (.reg [p 34 (.bin .eql 28 (.k (.int .i64 2))),p 33 (.mov 34)]) (.cond 33 (.seq (.reg [w0 (.store 1 6 (.k (.str []))),w0 (.store 1 7 (.k (.int .i64 0))),w0 (.store 1 8 (.k (.int
 .i64 5)))]) .ret) .skip)))))))
def ascii_read_ascii_tens:MFun:=⟨3,[.cell 6 none,.cell 7 none,.cell 8 none],(.seq (.reg [n 4 (.box 308 true 1),n 5 (.box 309 true 2),n 6 (.alloc 9 true [(.str [])]),n 7 (.alloc
 3 true [(.int .i64 0)]),n 8 (.alloc 30 true [(.int .i64 0)])]) (.scope (.seq (.seq (.reg [p 16 (.mov 0),p 17 (.lenOf true 16),p 18 (.bin .gtr 17 (.k (.int .i64 65536)))]) (.cond
 18 (.seq (.reg [w0 (.store 1 6 (.k (.str []))),w0 (.store 1 7 (.k (.int .i64 0))),w0 (.store 1 8 (.k (.int .i64 3)))]) .ret) .skip)) (.seq (.reg [n 9 (.alloc 35 false [.nilslice])])
 (.seq (.reg [p 19 (.mkfn 222 [] [9]),n 10 (.alloc 310 true [.nilfn]),w0 (.store 1 10 19)]) (.seq (.reg [n 11 (.alloc 3 true [(.int .i64 0)]),w0 (.store 1 11 (.k (.int .i64 0)))])
 (.seq .skip (.seq (.seq (.reg [p 20 (.mov 0),w 21 (.call (.k (.fn 219 [] [])) [20])]) (.block 0 (.rangeFunc 21 [22,23] (.seq (.reg [p 12 (.mov 22)]) (.reg [p 13 (.mov 23)])) ascii_read_ascii_tens_l0)))
 (.seq (.keep [6,7,8,9,11]) (.seq (.seq (.reg [r 35 (.load none 11),p 36 (.bin .eql 35 (.k (.int .i64 0)))]) (.cond 36 (.seq (.reg [w0 (.store 1 6 (.k (.str []))),w0 (.store 1
 7 (.k (.int .i64 0))),w0 (.store 1 8 (.k (.int .i64 5)))]) .ret) .skip)) (.seq (.reg [r 38 (.load none 9),r 39 (.b2s 38),w 40 (.call (.k (.fn 220 [] [])) [39]),p 37 (.mov 40),p
 41 (.extr 0 37),p 42 (.extr 1 37),p 14 (.mov 41),p 15 (.mov 42)]) (.seq (.keep [6,7,8,11,14,15]) (.seq (.seq (.reg [p 43 (.mov 15),p 44 (.bin .neq 43 (.k (.int .i64 0)))])
 (.cond 44 (.seq (.reg [p 45 (.mov 15),w0 (.store 1 6 (.k (.str []))),w0 (.store 1 7 (.k (.int .i64 0))),w0 (.store 1 8 45)]) .ret) .skip)) (.seq (.regd [.op 1 (r 47 (.load none 11)),
 .op 0 (p 46 (.mov 14)),.op 2 (w0 (.store 1 6 46)),.re 1,.op 3 (w0 (.store 1 7 47)),.op 4 (w0 (.store 1 8 (.k (.int .i64 0))))]) .ret))))))))))))))⟩
def ascii_tens_take:MFun:=⟨3,[.t 6],(.seq (.reg [p 6 (.mov (.k (.int .i64 0)))]) (.seq (.block 0 (.seq (.reg [p 42 (.mov 0),p 43 (.nilck 42),p 44 (.faddr 1 43),r 45 (.load
 none 44),p 41 (.mov 45)]) (.cond 41 (.seq (.seq (.reg [p 46 (.mov 1),p 47 (.bin .neq 46 (.k (.int .u8 62)))]) (.cond 47 (.seq (.reg [p 6 (.mov (.k (.int .i64 2)))]) .ret) .skip))
 (.seq (.reg [p 48 (.mov 0),p 49 (.mov 2),w 50 (.call (.k (.fn 223 [] [])) [48,49]),p 6 (.mov 50)]) .ret)) (.seq (.reg [p 52 (.mov 1),p 53 (.bin .eql 52 (.k (.int .u8 126))),p
 51 (.mov 53)]) (.cond 51 (.reg [p 54 (.mov 0),p 55 (.nilck 54),p 56 (.faddr 1 55),w0 (.store 1 56 (.k (.bool true)))]) (.seq (.reg [p 58 (.mov 1),p 59 (.bin .eql 58 (.k (.int .u8
 122))),p 57 (.mov 59)]) (.cond 57 (.seq (.seq (.reg [p 60 (.mov 0),p 61 (.nilck 60),p 62 (.faddr 0 61),r 63 (.load none 62),p 64 (.lenOf false 63),p 65 (.bin .gtr 64 (.k (.int
 .i64 0)))]) (.cond 65 (.seq (.reg [p 6 (.mov (.k (.int .i64 2)))]) .ret) .skip)) (.reg [p 66 (.mov 2),n 67 (.buildSl 5 4 [(.int .u8 0),(.int .u8 0),(.int .u8 0),(.int .u8 0)] [(0,
 1,(.k (.int .u8 0))),(1,1,(.k (.int .u8 0))),(2,1,(.k (.int .u8 0))),(3,1,(.k (.int .u8 0)))]),w 68 (.call 66 [67])])) (.seq (.reg [p 70 (.mov 1),p 71 (.bin .lss 70 (.k
 (.int .u8 33))),p 72 (.mov 71),pg 73 72 false (.mov 1),pg 74 72 false (.bin .gtr 73 (.k (.int .u8 117))),p 75 (.pick 72 (.k (.bool true)) 74),p 69 (.mov 75)]) (.cond 69 (.seq (.reg
 [p 6 (.mov (.k (.int .i64 2)))]) .ret) (.seq (.reg [p 9 (.mov 0),p 10 (.mov 0),p 11 (.nilck 10),p 12 (.faddr 0 11),r 13 (.load none 12),p 14 (.mov 1),n 15 (.buildSl 5 1 [(.int
 .u8 0)] [(0,1,14)]),w 16 (.append 5 1 1 [(.int .u8 0)] 13 15),p 17 (.nilck 9),p 18 (.faddr 0 17),w0 (.store 1 18 16)]) (.seq (.keep [0,2]) (.seq (.reg [p 19 (.mov 0),p 20 (.nilck
 19),p 21 (.faddr 0 20),r 22 (.load none 21),p 23 (.lenOf false 22),p 24 (.bin .eql 23 (.k (.int .i64 5)))]) (.cond 24 (.seq (.reg [p 26 (.mov 0),p 27 (.nilck 26),p 28 (.faddr
 0 27),r 29 (.load none 28),w 30 (.call (.k (.fn 224 [] [])) [29]),p 25 (.mov 30),p 31 (.extr 0 25),p 32 (.extr 1 25),n 7 (.alloc 318 false [(.int .u8 0),(.int .u8 0),(.int .u8
 0),(.int .u8 0)]),w0 (.store 4 7 31),p 8 (.mov 32)]) (.seq (.keep [0,2,7,8]) (.seq (.seq (.reg [p 33 (.mov 8),p 34 (.un .not 33)]) (.cond 34 (.seq (.reg [p 6 (.mov (.k (.int
 .i64 2)))]) .ret) .skip)) (.seq (.reg [p 35 (.mov 2),p 36 (.subA 4 1 7 none none none),w 37 (.call 35 [36])]) (.reg [p 38 (.mov 0),p 39 (.nilck 38),p 40 (.faddr 0 39),w0 (.store
 1 40 (.k .nilslice))]))))) .skip))))))))))))) (.seq (.keep []) (.seq (.reg [p 6 (.mov (.k (.int .i64 0)))]) .ret))))⟩
def ascii_read_ascii_half_1:MFun:=⟨2,[],(.reg [r 3 (.load none 1),p 4 (.mov 0),w 5 (.append 5 1 1 [(.int .u8 0)] 3 4),w0 (.store 1 1 5)])⟩
def ascii_solid:MFun:=⟨1,[.t 2],(.seq (.reg [n 1 (.box 9 false 0),p 2 (.mov (.k .nilfn))]) (.seq (.reg [p 3 (.mkfn 225 [] [1]),p 2 (.mov 3)]) .ret))⟩
def ascii_bounded:MFun:=⟨1,[.t 2,.t 3],(.seq (.reg [p 2 (.mov (.k (.str []))),p 3 (.mov (.k (.int .i64 0)))]) (.seq (.seq (.reg [p 4 (.mov 0),p 5 (.lenOf true 4),p 6 (.bin
 .gtr 5 (.k (.int .i64 65536)))]) (.cond 6 (.seq (.reg [p 2 (.mov (.k (.str []))),p 3 (.mov (.k (.int .i64 3)))]) .ret) .skip)) (.seq (.reg [p 7 (.mov 0),p 2 (.mov 7),p 3 (.mov (.k
 (.int .i64 0)))]) .ret)))⟩
def ascii_nibble:MFun:=⟨1,[.t 2],(.seq (.reg [p 2 (.mov (.k (.int .i64 0)))]) (.seq (.seq (.reg [p 3 (.mov 0),p 4 (.bin .geq 3 (.k (.int .u8 97))),p 5 (.mov 4),pg 6 5 true
 (.mov 0),pg 7 5 true (.bin .leq 6 (.k (.int .u8 102))),p 8 (.pick 5 7 (.k (.bool false)))]) (.cond 8 (.reg [p 9 (.mov 0),p 10 (.bin .sub 9 (.k (.int .u8 32))),p 0 (.mov 10)]) .skip))
 (.seq (.keep [0]) (.seq (.reg [p 11 (.mov 0),w 12 (.call (.k (.fn 84 [] [])) [(.k (.str [48,49,50,51,52,53,54,55,56,57,65,66,67,68,69,70])),11]),p 2 (.mov 12)]) .ret))))⟩
def ascii_read_ascii_tens_1:MFun:=⟨2,[],(.reg [r 3 (.load none 1),p 4 (.mov 0),w 5 (.append 5 1 1 [(.int .u8 0)] 3 4),w0 (.store 1 1 5)])⟩
def ascii_tens_close_l0:MCode:=(.seq (.keep [1,5,6]) (.seq (.seq (.reg [p 22 (.mov 6),p 23 (.lenOf false 22),p 24 (.bin .lss 23 (.k (.int .i64 5)))]) (.cond 24 .skip (.exit
 0))) (.block 1 (.reg [p 25 (.mov 6),n 26 (.buildSl 5 1 [(.int .u8 0)] [(0,1,(.k (.int .u8 117)))]),w 27 (.append 5 1 1 [(.int .u8 0)] 25 26),p 6 (.mov 27)]))))
def ascii_tens_close:MFun:=⟨2,[.t 4],(.seq (.reg [p 4 (.mov (.k (.int .i64 0)))]) (.seq (.reg [p 9 (.mov 0),p 10 (.nilck 9),p 11 (.faddr 0 10),r 12 (.load none 11),p 13 (.lenOf
 false 12),p 5 (.mov 13)]) (.seq (.seq (.reg [p 14 (.mov 5),p 15 (.bin .eql 14 (.k (.int .i64 1)))]) (.cond 15 (.seq (.reg [p 4 (.mov (.k (.int .i64 2)))]) .ret) .skip)) (.seq (.seq
 (.reg [p 16 (.mov 5),p 17 (.bin .gtr 16 (.k (.int .i64 1)))]) (.cond 17 (.seq (.reg [p 18 (.mov 0),p 19 (.nilck 18),p 20 (.faddr 0 19),r 21 (.load none 20),p 6 (.mov 21)]) (.seq
 (.block 0 (.loop ascii_tens_close_l0)) (.seq (.keep [1,5,6]) (.seq (.reg [p 29 (.mov 6),w 30 (.call (.k (.fn 224 [] [])) [29]),p 28 (.mov 30),p 31 (.extr 0 28),p 32 (.extr 1 28),
 n 7 (.alloc 318 false [(.int .u8 0),(.int .u8 0),(.int .u8 0),(.int .u8 0)]),w0 (.store 4 7 31),p 8 (.mov 32)]) (.seq (.keep [1,5,7,8]) (.seq (.seq (.reg [p 33 (.mov 8),p 34
 (.un .not 33)]) (.cond 34 (.seq (.reg [p 4 (.mov (.k (.int .i64 2)))]) .ret) .skip)) (.reg [p 35 (.mov 1),p 36 (.mov 5),p 37 (.bin .sub 36 (.k (.int .i64 1))),p 38 (.subA 4 1 7 none
 (some 37) none),w 39 (.call 35 [38])]))))))) .skip)) (.seq (.keep []) (.seq (.reg [p 4 (.mov (.k (.int .i64 1)))]) .ret))))))⟩
def ascii_fold_l0:MCode:=(.seq (.keep [2,4,7,8,9]) (.seq (.reg [p 10 (.bin .lss 9 8)]) (.seq (.cond 10 .skip (.exit 0)) (.seq (.block 1 (.seq (.reg [p 11 (.iaddrS 1 7 9),r
 12 (.load none 11),p 6 (.mov 12)]) (.reg [p 13 (.mov 4),p 14 (.bin .mul 13 (.k (.int .u64 85))),p 15 (.mov 6),p 16 (.bin .sub 15 (.k (.int .u8 33))),p 17 (.conv .u64 16),p 18
 (.bin .add 14 17),p 4 (.mov 18)]))) (.seq (.keep [2,4,7,8,9]) (.reg [p 19 (.bin .add 9 (.k (.int .i64 1))),p 9 (.mov 19)]))))))
def ascii_fold:MFun:=⟨1,[.cell 2 (some 4),.t 3],(.seq (.reg [n 2 (.alloc 318 true [(.int .u8 0),(.int .u8 0),(.int .u8 0),(.int .u8 0)]),p 3 (.mov (.k (.bool false)))]) (.seq
 (.reg [p 4 (.mov (.k (.int .u64 0)))]) (.seq (.seq (.reg [p 7 (.mov 0),p 8 (.lenOf false 7),p 9 (.mov (.k (.int .i64 0)))]) (.block 0 (.loop ascii_fold_l0))) (.seq (.keep [2,4])
 (.seq (.reg [p 20 (.mov 4),p 21 (.bin .shr 20 (.k (.int .u64 24))),p 22 (.conv .u8 21),p 23 (.mov 4),p 24 (.bin .shr 23 (.k (.int .u64 16))),p 25 (.conv .u8 24),p 26 (.mov 4),
 p 27 (.bin .shr 26 (.k (.int .u64 8))),p 28 (.conv .u8 27),p 29 (.mov 4),p 30 (.conv .u8 29),p 31 (.build [(.int .u8 0),(.int .u8 0),(.int .u8 0),(.int .u8 0)] [(0,1,22),(1,
 1,25),(2,1,28),(3,1,30)]),p 32 (.mov 4),p 33 (.bin .lss 32 (.k (.int .u64 4294967296))),w0 (.store 4 2 31),p 3 (.mov 33)]) .ret)))))⟩
def ascii_solid_1_l0:MCode:=(.seq (.keep [0,1,5,6]) (.seq (.reg [p 7 (.bin .lss 6 5)]) (.seq (.cond 7 .skip (.exit 0)) (.seq (.block 1 (.seq (.reg [p 8 (.mov 6),p 3 (.mov 8)])
 (.seq (.reg [r 9 (.load none 1),p 10 (.mov 3),p 11 (.idxS 9 10),w 12 (.call (.k (.fn 226 [] [])) [11]),p 13 (.un .not 12),p 14 (.mov 13),pg 15 14 true (.mov 0),pg 16 14 true
 (.mov 3),rg 17 14 true (.load none 1),pg 18 14 true (.mov 3),pg 19 14 true (.idxS 17 18),wg 20 14 true (.call 15 [16,19]),pg 21 14 true (.un .not 20),p 22 (.pick 14 21 (.k (.bool
 false)))]) (.cond 22 .ret .skip)))) (.seq (.keep [0,1,5,6]) (.reg [p 23 (.bin .add 6 (.k (.int .i64 1))),p 6 (.mov 23)]))))))
def ascii_solid_1:MFun:=⟨2,[],(.seq (.reg [r 4 (.load none 1),p 5 (.lenOf true 4),p 6 (.mov (.k (.int .i64 0)))]) (.block 0 (.loop ascii_solid_1_l0)))⟩
def ascii_blank:MFun:=⟨1,[.t 2],(.seq (.reg [p 2 (.mov (.k (.bool false)))]) (.seq (.reg [p 3 (.mov 0),p 4 (.bin .eql 3 (.k (.int .u8 0))),p 5 (.mov 4),pg 6 5 false (.mov 0),
 pg 7 5 false (.bin .eql 6 (.k (.int .u8 9))),p 8 (.pick 5 (.k (.bool true)) 7),p 9 (.mov 8),pg 10 9 false (.mov 0),pg 11 9 false (.bin .eql 10 (.k (.int .u8 10))),p 12 (.pick 9
 (.k (.bool true)) 11),p 13 (.mov 12),pg 14 13 false (.mov 0),pg 15 13 false (.bin .eql 14 (.k (.int .u8 12))),p 16 (.pick 13 (.k (.bool true)) 15),p 17 (.mov 16),pg 18 17 false
 (.mov 0),pg 19 17 false (.bin .eql 18 (.k (.int .u8 13))),p 20 (.pick 17 (.k (.bool true)) 19),p 21 (.mov 20),pg 22 21 false (.mov 0),pg 23 21 false (.bin .eql 22 (.k (.int .u8
 32))),p 24 (.pick 21 (.k (.bool true)) 23),p 2 (.mov 24)]) .ret))⟩
structure H_strings_Join (T:Tab):Prop where
 en:T.en 179=some E_strings_Join
structure H_chaseref04_Same (T:Tab):Prop where
 e:T.en 164=none
 f:T.fn 164=some chaseref04_Same
structure H_chaselaw04_text (T:Tab):Prop where
 e:T.en 171=none
 f:T.fn 171=some chaselaw04_text
structure H_chaselaw04_name (T:Tab):Prop where
 e:T.en 172=none
 f:T.fn 172=some chaselaw04_name
structure H_chaselaw04_number (T:Tab):Prop where
 e:T.en 173=none
 f:T.fn 173=some chaselaw04_number
structure H_scan_run_string (T:Tab):Prop where
 e:T.en 182=none
 f:T.fn 182=some scan_run_string
structure H_scan_blank (T:Tab):Prop where
 e:T.en 183=none
 f:T.fn 183=some scan_blank
 strings_IndexByte:H_strings_IndexByte T
structure H_scan_reader_skip_1 (T:Tab):Prop where
 e:T.en 184=none
 f:T.fn 184=some scan_reader_skip_1
structure H_scan_reader_stray (T:Tab):Prop where
 e:T.en 194=none
 f:T.fn 194=some scan_reader_stray
structure H_scan_reader_brace (T:Tab):Prop where
 e:T.en 195=none
 f:T.fn 195=some scan_reader_brace
structure H_chaseref02_ends (T:Tab):Prop where
 e:T.en 202=none
 f:T.fn 202=some chaseref02_ends
 chaseref02_Blank:H_chaseref02_Blank T
structure H_chaseref02_unit (T:Tab):Prop where
 e:T.en 203=none
 f:T.fn 203=some chaseref02_unit
structure H_chaseref02_four (T:Tab):Prop where
 e:T.en 204=none
 f:T.fn 204=some chaseref02_four
structure H_chaseref02_finish (T:Tab):Prop where
 e:T.en 205=none
 f:T.fn 205=some chaseref02_finish
structure H_chaseref02_Value (T:Tab):Prop where
 e:T.en 206=none
 f:T.fn 206=some chaseref02_Value
structure H_chaseref04_unsigned (T:Tab):Prop where
 e:T.en 208=none
 f:T.fn 208=some chaseref04_unsigned
structure H_scan_reader_follows (T:Tab):Prop where
 e:T.en 210=none
 f:T.fn 210=some scan_reader_follows
structure H_scan_number (T:Tab):Prop where
 e:T.en 213=none
 f:T.fn 213=some scan_number
structure H_ascii_read_ascii_half_1 (T:Tab):Prop where
 e:T.en 218=none
 f:T.fn 218=some ascii_read_ascii_half_1
structure H_ascii_bounded (T:Tab):Prop where
 e:T.en 220=none
 f:T.fn 220=some ascii_bounded
structure H_ascii_nibble (T:Tab):Prop where
 e:T.en 221=none
 f:T.fn 221=some ascii_nibble
 strings_IndexByte:H_strings_IndexByte T
structure H_ascii_read_ascii_tens_1 (T:Tab):Prop where
 e:T.en 222=none
 f:T.fn 222=some ascii_read_ascii_tens_1
structure H_ascii_fold (T:Tab):Prop where
 e:T.en 224=none
 f:T.fn 224=some ascii_fold
structure H_ascii_blank (T:Tab):Prop where
 e:T.en 226=none
 f:T.fn 226=some ascii_blank
structure H_strings_Builder_WriteString (T:Tab):Prop where
 e:T.en 169=none
 f:T.fn 169=some strings_Builder_WriteString
 strings_Builder_copyCheck:H_strings_Builder_copyCheck T
structure H_scan_reader_skip (T:Tab):Prop where
 e:T.en 174=none
 f:T.fn 174=some scan_reader_skip
 scan_run_string:H_scan_run_string T
 scan_blank:H_scan_blank T
 scan_reader_skip_1:H_scan_reader_skip_1 T
structure H_chaseref04_skip (T:Tab):Prop where
 e:T.en 176=none
 f:T.fn 176=some chaseref04_skip
 chaseref02_Blank:H_chaseref02_Blank T
structure H_scan_form (T:Tab):Prop where
 e:T.en 180=none
 f:T.fn 180=some scan_form
 strings_Builder_WriteByte:H_strings_Builder_WriteByte T
 strings_Builder_WriteString:H_strings_Builder_WriteString T
 strings_Builder_String:H_strings_Builder_String T
structure H_chaseref02_Unbase85 (T:Tab):Prop where
 e:T.en 188=none
 f:T.fn 188=some chaseref02_Unbase85
 chaseref02_Blank:H_chaseref02_Blank T
 chaseref02_ends:H_chaseref02_ends T
 chaseref02_unit:H_chaseref02_unit T
 chaseref02_four:H_chaseref02_four T
 chaseref02_finish:H_chaseref02_finish T
structure H_chaseref02_Unhex (T:Tab):Prop where
 e:T.en 189=none
 f:T.fn 189=some chaseref02_Unhex
 chaseref02_Blank:H_chaseref02_Blank T
 chaseref02_Value:H_chaseref02_Value T
structure H_chaseref04_after (T:Tab):Prop where
 e:T.en 190=none
 f:T.fn 190=some chaseref04_after
 chaseref03_Regular:H_chaseref03_Regular T
structure H_scan_reader_fixed (T:Tab):Prop where
 e:T.en 200=none
 f:T.fn 200=some scan_reader_fixed
 scan_reader_stray:H_scan_reader_stray T
 scan_number:H_scan_number T
structure H_chaseref04_signed (T:Tab):Prop where
 e:T.en 207=none
 f:T.fn 207=some chaseref04_signed
 chaseref04_unsigned:H_chaseref04_unsigned T
structure H_ascii_half_take (T:Tab):Prop where
 e:T.en 215=none
 f:T.fn 215=some ascii_half_take
 ascii_nibble:H_ascii_nibble T
structure H_ascii_tens_close (T:Tab):Prop where
 e:T.en 223=none
 f:T.fn 223=some ascii_tens_close
 ascii_fold:H_ascii_fold T
structure H_ascii_solid_1 (T:Tab):Prop where
 e:T.en 225=none
 f:T.fn 225=some ascii_solid_1
 ascii_blank:H_ascii_blank T
structure H_ascii_tens_take (T:Tab):Prop where
 e:T.en 217=none
 f:T.fn 217=some ascii_tens_take
 ascii_tens_close:H_ascii_tens_close T
 ascii_fold:H_ascii_fold T
structure H_ascii_solid (T:Tab):Prop where
 e:T.en 219=none
 f:T.fn 219=some ascii_solid
 ascii_solid_1:H_ascii_solid_1 T
structure H_chaseref04_named (T:Tab):Prop where
 e:T.en 187=none
 f:T.fn 187=some chaseref04_named
 chaseref03_Right:H_chaseref03_Right T
structure H_chaseref04_binary (T:Tab):Prop where
 e:T.en 191=none
 f:T.fn 191=some chaseref04_binary
 chaseref04_signed:H_chaseref04_signed T
 chaseref04_unsigned:H_chaseref04_unsigned T
 chaseref04_named:H_chaseref04_named T
structure H_ascii_read_ascii_half (T:Tab):Prop where
 e:T.en 214=none
 f:T.fn 214=some ascii_read_ascii_half
 ascii_read_ascii_half_1:H_ascii_read_ascii_half_1 T
 ascii_solid:H_ascii_solid T
 ascii_bounded:H_ascii_bounded T
structure H_ascii_read_ascii_tens (T:Tab):Prop where
 e:T.en 216=none
 f:T.fn 216=some ascii_read_ascii_tens
 ascii_read_ascii_tens_1:H_ascii_read_ascii_tens_1 T
 ascii_solid:H_ascii_solid T
 ascii_bounded:H_ascii_bounded T
structure H_chaseref04_token (T:Tab):Prop where
 e:T.en 177=none
 f:T.fn 177=some chaseref04_token
 chaseref03_Unquote:H_chaseref03_Unquote T
 chaseref04_named:H_chaseref04_named T
 chaseref02_Unbase85:H_chaseref02_Unbase85 T
 chaseref02_Unhex:H_chaseref02_Unhex T
 chaseref04_after:H_chaseref04_after T
 chaseref04_binary:H_chaseref04_binary T
 chaseref03_Word:H_chaseref03_Word T
structure H_ascii_Unhex (T:Tab):Prop where
 e:T.en 211=none
 f:T.fn 211=some ascii_Unhex
 ascii_read_ascii_half:H_ascii_read_ascii_half T
 ascii_half_take:H_ascii_half_take T
structure H_ascii_Unbase85 (T:Tab):Prop where
 e:T.en 212=none
 f:T.fn 212=some ascii_Unbase85
 ascii_read_ascii_tens:H_ascii_read_ascii_tens T
 ascii_tens_take:H_ascii_tens_take T
structure H_chaseref04_Next (T:Tab):Prop where
 e:T.en 159=none
 f:T.fn 159=some chaseref04_Next
 chaseref04_skip:H_chaseref04_skip T
 chaseref04_token:H_chaseref04_token T
structure H_scan_text (T:Tab):Prop where
 e:T.en 209=none
 f:T.fn 209=some scan_text
 lex_Check:H_lex_Check T
structure H_scan_reader_quoted (T:Tab):Prop where
 e:T.en 193=none
 f:T.fn 193=some scan_reader_quoted
 lex_Unquote:H_lex_Unquote T
 scan_text:H_scan_text T
structure H_scan_reader_bracket (T:Tab):Prop where
 e:T.en 196=none
 f:T.fn 196=some scan_reader_bracket
 scan_text:H_scan_text T
structure H_scan_reader_less (T:Tab):Prop where
 e:T.en 197=none
 f:T.fn 197=some scan_reader_less
 scan_reader_follows:H_scan_reader_follows T
 scan_text:H_scan_text T
 ascii_Unhex:H_ascii_Unhex T
 ascii_Unbase85:H_ascii_Unbase85 T
structure H_scan_reader_greater (T:Tab):Prop where
 e:T.en 198=none
 f:T.fn 198=some scan_reader_greater
 scan_reader_follows:H_scan_reader_follows T
 scan_text:H_scan_text T
structure H_scan_reader_slash (T:Tab):Prop where
 e:T.en 199=none
 f:T.fn 199=some scan_reader_slash
 scan_reader_follows:H_scan_reader_follows T
 scan_run_string:H_scan_run_string T
 lex_Regular:H_lex_Regular T
 scan_text:H_scan_text T
structure H_scan_reader_counted (T:Tab):Prop where
 e:T.en 201=none
 f:T.fn 201=some scan_reader_counted
 scan_reader_stray:H_scan_reader_stray T
 scan_text:H_scan_text T
structure H_scan_Print (T:Tab):Prop where
 e:T.en 165=none
 f:T.fn 165=some scan_Print
 lex_Text:H_lex_Text T
 strings_Join:H_strings_Join T
structure H_scan_Pack (T:Tab):Prop where
 e:T.en 166=none
 f:T.fn 166=some scan_Pack
 lex_Check:H_lex_Check T
 scan_form:H_scan_form T
 lex_Text:H_lex_Text T
structure H_scan_readers (T:Tab):Prop where
 e:T.en 185=none
 f:T.fn 185=some scan_readers
 scan_reader_quoted:H_scan_reader_quoted T
 scan_reader_stray:H_scan_reader_stray T
 scan_reader_brace:H_scan_reader_brace T
 scan_reader_bracket:H_scan_reader_bracket T
 scan_reader_less:H_scan_reader_less T
 scan_reader_greater:H_scan_reader_greater T
 scan_reader_slash:H_scan_reader_slash T
structure H_scan_reader_binary (T:Tab):Prop where
 e:T.en 186=none
 f:T.fn 186=some scan_reader_binary
 scan_reader_fixed:H_scan_reader_fixed T
 scan_reader_counted:H_scan_reader_counted T
 scan_reader_stray:H_scan_reader_stray T
structure H_scan_reader_token (T:Tab):Prop where
 e:T.en 175=none
 f:T.fn 175=some scan_reader_token
 scan_readers:H_scan_readers T
 scan_reader_binary:H_scan_reader_binary T
 scan_run_string:H_scan_run_string T
 lex_Regular:H_lex_Regular T
 lex_Word:H_lex_Word T
structure H_scan_Next (T:Tab):Prop where
 e:T.en 158=none
 f:T.fn 158=some scan_Next
 scan_reader_skip:H_scan_reader_skip T
 scan_reader_token:H_scan_reader_token T
structure H_scan_tokens_1 (T:Tab):Prop where
 e:T.en 192=none
 f:T.fn 192=some scan_tokens_1
 scan_Next:H_scan_Next T
structure H_scan_tokens (T:Tab):Prop where
 e:T.en 178=none
 f:T.fn 178=some scan_tokens
 scan_tokens_1:H_scan_tokens_1 T
structure H_scan_All (T:Tab):Prop where
 e:T.en 162=none
 f:T.fn 162=some scan_All
 scan_tokens:H_scan_tokens T
structure H_chaselaw04_reads (T:Tab):Prop where
 e:T.en 168=none
 f:T.fn 168=some chaselaw04_reads
 scan_All:H_scan_All T
 chaseref04_Same:H_chaseref04_Same T
structure H_chaselaw04_fails (T:Tab):Prop where
 e:T.en 170=none
 f:T.fn 170=some chaselaw04_fails
 scan_All:H_scan_All T
structure H_chaselaw04_works (T:Tab):Prop where
 e:T.en 157=none
 f:T.fn 157=some chaselaw04_works
 chaselaw04_number:H_chaselaw04_number T
 chaselaw04_reads:H_chaselaw04_reads T
 chaselaw04_name:H_chaselaw04_name T
 chaselaw04_text:H_chaselaw04_text T
 scan_Next:H_scan_Next T
 scan_Print:H_scan_Print T
 scan_Pack:H_scan_Pack T
 chaselaw04_fails:H_chaselaw04_fails T
structure H_chaselaw04_ScanNexts (T:Tab):Prop where
 e:T.en 150=none
 f:T.fn 150=some chaselaw04_ScanNexts
 chaselaw04_works:H_chaselaw04_works T
 scan_Next:H_scan_Next T
 chaseref04_Next:H_chaseref04_Next T
end Go.Ev.B

/- The plain law of LexBack: quoted strings, names and ints are read back. -/
namespace Go.Ev
open Go
set_option linter.unusedSimpArgs false
set_option linter.unusedSectionVars false
set_option linter.unusedVariables false
end Go.Ev

/- The plain law of bases: digits in any base are read back. -/
namespace Go.Ev
open Go
set_option linter.unusedSimpArgs false
set_option linter.unusedSectionVars false
set_option linter.unusedVariables false
end Go.Ev

/- The plain law of LexBack: the decimal texts of ints and reals are read back. -/
namespace Go.Ev
open Go
set_option linter.unusedSimpArgs false
set_option linter.unusedSectionVars false
set_option linter.unusedVariables false
end Go.Ev

/- The plain law of LexBack: what a valid token's text is; texts are distinct. -/
namespace Go.Ev
open Go
set_option linter.unusedSimpArgs false
set_option linter.unusedSectionVars false
set_option linter.unusedVariables false
end Go.Ev

/- LexBack: the law told. -/
namespace Go.Ev
open Go
set_option linter.unusedSimpArgs false
set_option linter.unusedSectionVars false
set_option linter.unusedVariables false
variable {T : Tab} {st : St}
end Go.Ev

/- What the functions of ascii tell: octets. -/
namespace Go.Ev
open Go
set_option linter.unusedSimpArgs false
set_option linter.unusedSectionVars false
set_option linter.unusedVariables false
variable {T : Tab} {st : St}
def blankC (c:UInt8):Bool:=decide (c=0) || (decide (c=9) || (decide (c=10) || (decide (c=12) || (decide (c=13) || decide (c=32)))))
def nibV (c:UInt8):Int:=if 48≤c.toNat∧c.toNat≤57 then(c.toNat:Int) - 48 else if 65≤c.toNat∧c.toNat≤70 then(c.toNat:Int) - 55 else if 97≤c.toNat∧c.toNat≤102 then(c.toNat:Int) - 87 else -1
theorem nibV_le (c:UInt8): -1≤nibV c∧nibV c≤15:=by unfold nibV;(repeat' split) <;> omega
theorem asciiBlank_tells (H:B.H_ascii_blank T) (hwf:st.Wf) (c:UInt8):Tells T st (.fn 226 [] []) [.int .u8 c.toNat] (.bool (blankC c)):=by
 have h:(List.range 256).all (fun c=>saysP T0 60 B.ascii_blank [.int .u8 c] (.bool (blankC (UInt8.ofNat c))))=true:=by kernel_rfl
 have:=all_octets h c
 simp only[UInt8.ofNat_toNat]at this
 exact tells_pure pureIn0 H.e H.f hwf rfl this
theorem refBlank_tells (H:B.H_chaseref02_Blank T) (hwf:st.Wf) (c:UInt8):Tells T st (.fn 85 [] []) [.int .u8 c.toNat] (.bool (blankC c)):=by
 have h:(List.range 256).all (fun c=>saysP T0 60 B.chaseref02_Blank [.int .u8 c] (.bool (blankC (UInt8.ofNat c))))=true:=by kernel_rfl
 have:=all_octets h c
 simp only[UInt8.ofNat_toNat]at this
 exact tells_pure pureIn0 H.e H.f hwf rfl this
theorem refValue_tells (H:B.H_chaseref02_Value T) (hwf:st.Wf) (c:UInt8):Tells T st (.fn 206 [] []) [.int .u8 c.toNat] (.int .i64 (nibV c)):=by
 have h:(List.range 256).all (fun c=>saysP T0 60 B.chaseref02_Value [.int .u8 c] (.int .i64 (nibV (UInt8.ofNat c))))=true:=by kernel_rfl
 have:=all_octets h c
 simp only[UInt8.ofNat_toNat]at this
 exact tells_pure pureIn0 H.e H.f hwf rfl this
theorem nib_facts (c:UInt8):(¬(97≤c.toNat∧c.toNat≤102)→Lib.indexByte [48,49,50,51,52,53,54,55,56,57,65,66,67,68,69,70] c=nibV c)∧
  (97≤c.toNat∧c.toNat≤102→IntKind.u8.wrap ((c.toNat:Int) - 32)=((UInt8.ofNat (c.toNat - 32)).toNat:Int)∧Lib.indexByte [48,49,50,51,52,53,54,55,56,57,65,66,67,68,69,70] (UInt8.ofNat (c.toNat - 32))=nibV c):=by
 have h:(List.range 256).all (fun n=>let c:=UInt8.ofNat n;decide (¬(97≤c.toNat∧c.toNat≤102)→Lib.indexByte [48,49,50,51,52,53,54,55,56,57,65,66,67,68,69,70] c=nibV c) &&
  decide (97≤c.toNat∧c.toNat≤102→IntKind.u8.wrap ((c.toNat:Int) - 32)=((UInt8.ofNat (c.toNat - 32)).toNat:Int)∧Lib.indexByte [48,49,50,51,52,53,54,55,56,57,65,66,67,68,69,70] (UInt8.ofNat (c.toNat - 32))=nibV c))=true:=by kernel_rfl
 have:=all_octets h c
 simp only[UInt8.ofNat_toNat,Bool.and_eq_true,decide_eq_true_eq]at this
 exact this
theorem nibble_tells (H:B.H_ascii_nibble T) (hwf:st.Wf) (c:UInt8):Tells T st (.fn 221 [] []) [.int .u8 c.toNat] (.int .i64 (nibV c)):=by
 refine tells_of H.e H.f rfl ?_
 obtain⟨f1,f2⟩:=nib_facts c
 have hi:=fun(d:UInt8)=>indexByte_call (st:=st) H.strings_IndexByte (s:=[48,49,50,51,52,53,54,55,56,57,65,66,67,68,69,70]) (c:=(d.toNat:Int))
 have hu:∀d:UInt8,(d.toNat:Int).toNat.toUInt8=d:=fun d=>by simp
 by_cases h:97≤c.toNat∧c.toNat≤102
 ·obtain⟨w1,w2⟩:=f2 h
  have hi2:=hi (UInt8.ofNat (c.toNat - 32))
  rw[hu,w2]at hi2
  generalize UInt8.ofNat (c.toNat - 32)=d at*
  have h1:(97:Int)≤c.toNat:=by omega
  have h2:(c.toNat:Int)≤102:=by omega
  simp[B.ascii_nibble,go_sem,h1,h2,h.1,h.2,w1,hi2,Ext.refl hwf]
 ·have hi2:=hi c
  rw[hu,f1 h]at hi2
  by_cases h1:97≤c.toNat
  ·have h1':(97:Int)≤c.toNat:=by omega
   have h2:¬(c.toNat:Int)≤102:=by omega
   have h2':¬c.toNat≤102:=by omega
   simp[B.ascii_nibble,go_sem,h1,h1',h2,h2',hi2,Ext.refl hwf]
  ·have h1':¬(97:Int)≤c.toNat:=by omega
   simp[B.ascii_nibble,go_sem,h1,h1',hi2,Ext.refl hwf]
end Go.Ev

/- What is skipped: white space and comments; the regular characters ahead. -/
namespace Go.Ev
open Go
set_option linter.unusedSimpArgs false
set_option linter.unusedSectionVars false
set_option linter.unusedVariables false
variable {T : Tab} {st : St}
def runN (p:UInt8→Bool):List UInt8→Nat
 | []=>0
 | c::r=>if p c=true then runN p r+1 else 0
theorem runN_le (p:UInt8→Bool):∀s,runN p s≤s.length
 | []=>Nat.le_refl _
 | c::r=>by
   have:=runN_le p r
   simp only[runN,List.length_cons]
   split <;> omega
def skp:Bool→List UInt8→Nat
 | _,[]=>0
 | true,c::r=>if c=10∨c=13 then skp false r+1 else skp true r+1
 | false,c::r=>if blankC c=true then skp false r+1 else if c=37 then skp true r+1 else 0
theorem skp_le:∀(b:Bool) (s:List UInt8),skp b s≤s.length
 | b,[]=>by cases b <;> simp[skp]
 | true,c::r=>by
   have h1:=skp_le true r
   have h2:=skp_le false r
   simp only[skp,List.length_cons]
   split <;> omega
 | false,c::r=>by
   have h1:=skp_le true r
   have h2:=skp_le false r
   simp only[skp,List.length_cons]
   split
   ·omega
   ·split <;> omega
theorem run_loop_tells (H:B.H_scan_run_string T) {s:List UInt8} {f:AV} {p:UInt8→Bool} (hp:∀s',s'.Wf→∀c:UInt8,Tells T s' f [.int .u8 c.toNat] (.bool (p c))) (hs:s.length<1000000000000):∀(m i:Nat) (e:Env) (st1:St),i+m=s.length→Ext st st1→eget e 0= .str s→eget e 1=f→eget e 5= .int .i64 i→
  Res (run T (.loop B.scan_run_string_l0) e st1) fun x e' s'=>Ext st s'∧x= .exit 0∧eget e' 5= .int .i64 ((i+runN p (s.drop i):Nat):Int):=by
 intro m
 induction m with
 | zero=>
   intro i e st1 hi hx g0 g1 g5
   have hil:i=s.length:=by omega
   subst hil
   rw[run_loop]
   simp[B.scan_run_string_l0,go_sem,g0,g1,g5,hx,runN]
 | succ m ih=>
   intro i e st1 hi hx g0 g1 g5
   have hil:i<s.length:=by omega
   have hil':(i:Int)<s.length:=by omega
   obtain⟨c,hc,hd⟩:=idx_some hil
   have ek:IntKind.i64.wrap ((i:Int)+1)=((i+1:Nat):Int):=wrap64' (by omega) (by omega)
   have ih2:=fun e' s'=>ih (i+1) e' s' (by omega)
   obtain⟨R,hR⟩:∃R,R=runN p (s.drop i):=⟨_,rfl⟩
   rw[←hR]
   rw[hd,runN]at hR
   rw[run_loop]
   simp[B.scan_run_string_l0,go_sem,g0,g1,g5,hil',hc]
   refine(hp _ hx.wf c).use fun s1 hs1=> ?_
   have hx1:=hx.trans hs1
   cases hr:p c with
   | false=>simp[go_sem,hr]at hR⊢;simp[go_sem,hx1,hR,g5]
   | true=>
     rw[if_pos hr]at hR
     simp[go_sem,hr]
     refine(ih2 _ s1 hx1 (by simp[go_sem,g0]) (by simp[go_sem,g1]) (by simp[go_sem,g5,ek])).mono ?_
     rintro x e' s' ⟨h1,h2,h3⟩
     exact⟨h1,h2,by rw[h3,hR];congr 1;omega⟩
theorem run_tells (H:B.H_scan_run_string T) (hwf:st.Wf) {s:List UInt8} {f:AV} {p:UInt8→Bool} (hp:∀s',s'.Wf→∀c:UInt8,Tells T s' f [.int .u8 c.toNat] (.bool (p c))) (hs:s.length<1000000000000):Tells T st (.fn 182 [] []) [.str s,f] (.int .i64 (runN p s:Nat)):=by
 refine tells_of H.e H.f rfl ?_
 simp[B.scan_run_string,go_sem]
 refine(run_loop_tells H hp hs s.length 0 _ st (by simp) (.refl hwf) (by simp[go_sem]) (by simp[go_sem]) (by simp[go_sem])).mono ?_
 rintro x e' s' ⟨h1,rfl,h3⟩
 simp only[List.drop_zero,Nat.zero_add]at h3
 simp[go_sem,h3,h1]
theorem after_loop (H:B.H_chaseref04_after T) {s:List UInt8} (hs:s.length<1000000000000):∀(m i:Nat) (e:Env) (st1:St),i+m=s.length→Ext st st1→eget e 0= .str s→eget e 1= .int .i64 i→
  Res (run T (.loop B.chaseref04_after_l0) e st1) fun x e' s'=>Ext st s'∧x= .exit 0∧eget e' 1= .int .i64 ((i+runN isReg (s.drop i):Nat):Int):=by
 intro m
 induction m with
 | zero=>
   intro i e st1 hi hx g0 g1
   have hil:i=s.length:=by omega
   subst hil
   rw[run_loop]
   simp[B.chaseref04_after_l0,go_sem,g0,g1,hx,runN]
 | succ m ih=>
   intro i e st1 hi hx g0 g1
   have hil:i<s.length:=by omega
   have hil':(i:Int)<s.length:=by omega
   obtain⟨c,hc,hd⟩:=idx_some hil
   have ek:IntKind.i64.wrap ((i:Int)+1)=((i+1:Nat):Int):=wrap64' (by omega) (by omega)
   have ih2:=fun e' s'=>ih (i+1) e' s' (by omega)
   obtain⟨R,hR⟩:∃R,R=runN isReg (s.drop i):=⟨_,rfl⟩
   rw[←hR]
   rw[hd,runN]at hR
   rw[run_loop]
   simp[B.chaseref04_after_l0,go_sem,g0,g1,hil',hc]
   refine(refRegular_tells H.chaseref03_Regular hx.wf c).use fun s1 hs1=> ?_
   have hx1:=hx.trans hs1
   cases hr:isReg c with
   | false=>simp[go_sem,hr]at hR⊢;simp[go_sem,hx1,hR,g1]
   | true=>
     rw[if_pos hr]at hR
     simp[go_sem,hr]
     refine(ih2 _ s1 hx1 (by simp[go_sem,g0]) (by simp[go_sem,g1,ek])).mono ?_
     rintro x e' s' ⟨h1,h2,h3⟩
     exact⟨h1,h2,by rw[h3,hR];congr 1;omega⟩
theorem after_tells (H:B.H_chaseref04_after T) (hwf:st.Wf) {s:List UInt8} {i:Nat} (hi:i≤s.length) (hs:s.length<1000000000000):Tells T st (.fn 190 [] []) [.str s,.int .i64 (i:Int)] (.int .i64 ((i+runN isReg (s.drop i):Nat):Int)):=by
 refine tells_of H.e H.f rfl ?_
 simp[B.chaseref04_after,go_sem]
 refine(after_loop H hs (s.length - i) i _ st (by omega) (.refl hwf) (by simp[go_sem]) (by simp[go_sem])).mono ?_
 rintro x e' s' ⟨h1,rfl,h3⟩
 simp[go_sem,h3,h1]
theorem refSkip_loop (H:B.H_chaseref04_skip T) {s:List UInt8} (hs:s.length<1000000000000):∀(m i:Nat) (b:Bool) (e:Env) (st1:St),i+m=s.length→Ext st st1→eget e 0= .str s→eget e 1= .int .i64 i→eget e 5= .bool b→
  Res (run T (.loop B.chaseref04_skip_l0) e st1) fun x e' s'=>Ext st s'∧((x= .exit 0∧eget e' 1= .int .i64 ((i+skp b (s.drop i):Nat):Int))∨(x= .ret∧eget e' 4= .int .i64 ((i+skp b (s.drop i):Nat):Int))):=by
 intro m
 induction m with
 | zero=>
   intro i b e st1 hi hx g0 g1 g5
   have hil:i=s.length:=by omega
   subst hil
   rw[run_loop]
   cases b <;> simp[B.chaseref04_skip_l0,go_sem,g0,g1,g5,hx,skp]
 | succ m ih=>
   intro i b e st1 hi hx g0 g1 g5
   have hil:i<s.length:=by omega
   have hil':(i:Int)<s.length:=by omega
   obtain⟨c,hc,hd⟩:=idx_some hil
   have ek:IntKind.i64.wrap ((i:Int)+1)=((i+1:Nat):Int):=wrap64' (by omega) (by omega)
   obtain⟨R,hR⟩:∃R,R=skp b (s.drop i):=⟨_,rfl⟩
   rw[←hR]
   rw[hd]at hR
   have fin:∀(b2:Bool) e' s',Ext st s'→eget e' 0= .str s→eget e' 1= .int .i64 ((i+1:Nat):Int)→eget e' 5= .bool b2→R=skp b2 (s.drop (i+1))+1→
     Res (run T (.loop B.chaseref04_skip_l0) e' s') fun x e' s'=>Ext st s'∧((x= .exit 0∧eget e' 1= .int .i64 ((i+R:Nat):Int))∨(x= .ret∧eget e' 4= .int .i64 ((i+R:Nat):Int))):=by
    intro b2 e' s' hx' k0 k1 k5 hR2
    refine(ih (i+1) b2 e' s' (by omega) hx' k0 k1 k5).mono ?_
    rintro x e2 s2 ⟨h1,h2⟩
    rw[hR2,show i+(skp b2 (s.drop (i+1))+1)=i+1+skp b2 (s.drop (i+1))by omega]
    exact⟨h1,h2⟩
   have c10:((c.toNat:Int)=10)↔c=10:=by rw[←UInt8.toNat_inj];simp;omega
   have c13:((c.toNat:Int)=13)↔c=13:=by rw[←UInt8.toNat_inj];simp;omega
   have c37:((c.toNat:Int)=37)↔c=37:=by rw[←UInt8.toNat_inj];simp;omega
   clear ih
   rw[run_loop]
   cases b with
   | true=>
     simp only[skp]at hR
     by_cases h1:c=10
     ·subst h1
      simp at hR
      simp[B.chaseref04_skip_l0,go_sem,g0,g1,g5,hil',hc]
      exact fin false _ _ hx (by simp[go_sem,g0]) (by simp[go_sem,ek]) (by simp[go_sem]) (by simpa using hR)
     ·by_cases h2:c=13
      ·subst h2
       simp at hR
       simp[B.chaseref04_skip_l0,go_sem,g0,g1,g5,hil',hc]
       exact fin false _ _ hx (by simp[go_sem,g0]) (by simp[go_sem,ek]) (by simp[go_sem]) (by simpa using hR)
      ·rw[if_neg (by simp[h1,h2])]at hR
       simp[B.chaseref04_skip_l0,go_sem,g0,g1,g5,hil',hc,c10,c13,h1,h2]
       exact fin true _ _ hx (by simp[go_sem,g0]) (by simp[go_sem,ek]) (by simp[go_sem]) hR
   | false=>
     simp only[skp]at hR
     simp[B.chaseref04_skip_l0,go_sem,g0,g1,g5,hil',hc]
     refine(refBlank_tells H.chaseref02_Blank hx.wf c).use fun s1 hs1=> ?_
     have hx1:=hx.trans hs1
     cases hb:blankC c with
     | true=>
       rw[if_pos hb]at hR
       simp[go_sem,g0,g1,g5]
       exact fin false _ _ hx1 (by simp[go_sem,g0]) (by simp[go_sem,ek]) (by simp[go_sem,g5]) hR
     | false=>
       rw[if_neg (by simp[hb])]at hR
       by_cases h1:c=37
       ·subst h1
        simp at hR
        simp[go_sem,g0,g1,g5,hc]
        exact fin true _ _ hx1 (by simp[go_sem,g0]) (by simp[go_sem,ek]) (by simp[go_sem]) hR
       ·rw[if_neg h1]at hR
        simp[go_sem,g0,g1,g5,hc,c37,h1,hx1,hR]
theorem refSkip_tells (H:B.H_chaseref04_skip T) (hwf:st.Wf) {s:List UInt8} {i:Nat} (hi:i≤s.length) (hs:s.length<1000000000000):Tells T st (.fn 176 [] []) [.str s,.int .i64 (i:Int)] (.int .i64 ((i+skp false (s.drop i):Nat):Int)):=by
 refine tells_of H.e H.f rfl ?_
 simp[B.chaseref04_skip,go_sem]
 refine(refSkip_loop H hs (s.length - i) i false _ st (by omega) (.refl hwf) (by simp[go_sem]) (by simp[go_sem]) (by simp[go_sem])).mono ?_
 rintro x e' s' ⟨h1,⟨rfl,h3⟩ | ⟨rfl,h3⟩⟩
 ·simp[go_sem,h3,h1]
 ·simp[go_sem,h3,h1]
end Go.Ev

/- The reader skips white space and comments. -/
namespace Go.Ev
open Go
set_option linter.unusedSimpArgs false
set_option linter.unusedSectionVars false
set_option linter.unusedVariables false
variable {T : Tab} {st : St}
def neC (c:UInt8):Bool:=decide (c≠10) && decide (c≠13)
theorem skp_true:∀r:List UInt8,skp true r=runN neC r+skp false (r.drop (runN neC r))
 | []=>rfl
 | c::r=>by
   have ih:=skp_true r
   by_cases h:c=10∨c=13
   ·have h1:neC c=false:=by rcases h with rfl | rfl <;> rfl
    have h2:blankC c=true:=by rcases h with rfl | rfl <;> rfl
    rw[skp,if_pos h,runN,if_neg (by simp[h1]),List.drop_zero,Nat.zero_add,skp,if_pos h2]
   ·have h1:neC c=true:=by simp[neC];exact⟨fun e=>h (.inl e),fun e=>h (.inr e)⟩
    rw[skp,if_neg h,runN,if_pos h1,List.drop_succ_cons,ih];omega
theorem skp_blank:∀s:List UInt8,skp false s=runN blankC s+skp false (s.drop (runN blankC s))
 | []=>rfl
 | c::r=>by
   have ih:=skp_blank r
   by_cases h:blankC c=true
   ·rw[skp,if_pos h,runN,if_pos h,List.drop_succ_cons,ih];omega
   ·rw[runN,if_neg h,List.drop_zero,Nat.zero_add]
theorem skp_pct {t r:List UInt8} (h:t=37::r):skp false t=runN neC t+skp false (t.drop (runN neC t)):=by
 subst h
 have:=skp_true r
 rw[skp,if_neg (by decide),if_pos rfl,runN,if_pos (by rfl),List.drop_succ_cons]
 omega
theorem runN_head (p:UInt8→Bool):∀(s:List UInt8) c r,s.drop (runN p s)=c::r→p c=false
 | [],c,r,h=>by simp[runN]at h
 | d::t,c,r,h=>by
   by_cases hd:p d=true
   ·rw[runN,if_pos hd,List.drop_succ_cons]at h
    exact runN_head p t c r h
   ·rw[runN,if_neg hd,List.drop_zero]at h
    injection h with h1 h2
    subst h1
    simpa using hd
theorem scanBlank_tells (H:B.H_scan_blank T) (hwf:st.Wf) (c:UInt8):Tells T st (.fn 183 [] []) [.int .u8 c.toNat] (.bool (blankC c)):=by
 refine tells_of H.e H.f rfl ?_
 have hi:=fun st=>indexByte_call (st:=st) H.strings_IndexByte (s:=[0,9,10,12,13,32]) (c:=c.toNat)
 have h:(List.range 256).all (fun n=>let c:=UInt8.ofNat n;decide (0≤Lib.indexByte [0,9,10,12,13,32] c) == blankC c)=true:=by kernel_rfl
 have:=all_octets h c
 simp only[UInt8.ofNat_toNat,beq_iff_eq]at this
 simp[B.scan_blank,go_sem,hi,Ext.refl hwf]
 simpa using this
theorem skip1_tells (H:B.H_scan_reader_skip_1 T) (hwf:st.Wf) (c:UInt8):Tells T st (.fn 184 [] []) [.int .u8 c.toNat] (.bool (neC c)):=by
 have h:(List.range 256).all (fun c=>saysP T0 60 B.scan_reader_skip_1 [.int .u8 c] (.bool (neC (UInt8.ofNat c))))=true:=by kernel_rfl
 have:=all_octets h c
 simp only[UInt8.ofNat_toNat]at this
 exact tells_pure pureIn0 H.e H.f hwf rfl this
abbrev rdrO (l:Bool) (s:List UInt8) (at_:Nat):AObj:= .cells 278 l [.str s,.int .i64 (at_:Int)]
theorem rdr0 {h:Heap} {p i:Nat} {s:List UInt8} {l:Bool} (g:hget h p=some (rdrO l s i)):rdCell h p 0=some (.str s):=by simp[rdCell,g]
theorem rdr1 {h:Heap} {p i:Nat} {s:List UInt8} {l:Bool} (g:hget h p=some (rdrO l s i)):rdCell h p 1=some (.int .i64 (i:Int)):=by simp[rdCell,g]
theorem rdrW {h:Heap} {p i:Nat} {s:List UInt8} {l:Bool} {j:Nat} (g:hget h p=some (rdrO l s i)):wrCells h p 1 [.int .i64 (j:Int)]=some (hset h p (rdrO l s j)):=wr_cells g rfl (by simp)
theorem skip_loop (H:B.H_scan_reader_skip T) {s:List UInt8} {l:Bool} {p:Nat} (hs:s.length<1000000000000):∀(m i:Nat) (e:Env) (st1:St),s.length - i<m→i≤s.length→Frm [p] st st1→hget st1.h p=some (rdrO l s i)→eget e 0= .ptr p 0→
  Res (run T (.loop B.scan_reader_skip_l0) e st1) fun x e' s'=>Frm [p] st s'∧x= .ret∧hget s'.h p=some (rdrO l s (i+skp false (s.drop i))):=by
 intro m
 induction m with
 | zero=>intro i e st1 h;omega
 | succ m ih=>
   intro i e st1 hm hi hx g g0
   have hb:=skp_blank (s.drop i)
   have hle:=runN_le blankC (s.drop i)
   rw[List.length_drop]at hle
   have hhd:=runN_head blankC (s.drop i)
   obtain⟨R,hR⟩:∃R,R=skp false (s.drop i):=⟨_,rfl⟩
   rw[←hR]at hb⊢
   rw[List.drop_drop]at hb hhd
   have hrun:=fun st1 hw=>run_tells (st:=st1) H.scan_run_string hw (s:=s.drop i) (f:= .fn 183 [] []) (p:=blankC) (fun s' hw c=>scanBlank_tells H.scan_blank hw c) (by simp;omega)
   generalize runN blankC (s.drop i)=k at*
   clear hR
   have ek:IntKind.i64.wrap ((i:Int)+(k:Int))=((i+k:Nat):Int):=wrap64' (by omega) (by omega)
   have r0:=rdr0 g
   have r1:=rdr1 g
   have hsub:asubS s (some (.int .i64 (i:Int))) none=some (.str (s.drop i)):=by rw[asubS_from (by omega) (by omega)];simp
   rw[run_loop]
   simp[B.scan_reader_skip_l0,go_sem,g0,RO.run,r0,r1,hsub]
   refine(hrun _ (Ext.aside hx.wf 23).wf).use fun s1 x1=> ?_
   have x1':=(Ext.aside hx.wf 23).trans x1
   have g1:=x1'.get hx.wf g
   have w1:=rdrW (j:=i+k) g1
   simp[go_sem,g0,RO.run,WO.run,reI,rdr1 g1,ek]
   refine⟨rfl,?_⟩
   simp only[Int.natCast_add]at w1
   have g2:=hget_hset_self (o:=rdrO l s (i+k)) g1
   have f2:Frm [p] st ⟨hset s1.h p (rdrO l s (i+k)),s1.nx⟩:=(hx.trans (x1'.fr []) (by simp)).trans (Frm.set x1.wf g1) (by simp)
   have q0:=rdr0 g2
   have q1:=rdr1 g2
   rw[Int.natCast_add]at q1
   simp[go_sem,g0,RO.run,WO.run,rdr1 g1,ek,w1]
   by_cases hend:i+k=s.length
   ·have hd0:s.drop (i+k)=[]:=List.drop_eq_nil_of_le (by omega)
    rw[hd0]at hb
    simp[skp]at hb
    subst hb
    have he:(i:Int)+(R:Int)=s.length:=by omega
    simp[go_sem,g0,RO.run,WO.run,q0,q1,he]
    exact⟨f2.trans ((Ext.aside f2.wf 26).fr []) (by simp),g2⟩
   ·obtain⟨c,hc,hd⟩:=idx_some (s:=s) (i:=i+k) (by omega)
    have he:¬(i:Int)+(k:Int)=s.length:=by omega
    have hik:(0:Int)≤(i:Int)+(k:Int):=by omega
    have htn:((i:Int)+(k:Int)).toNat=i+k:=by omega
    have hbk:=hhd c _ hd
    by_cases hc37:c=37
    ·subst hc37
     have hsk:skp false (s.drop (i+k))=runN neC (s.drop (i+k))+skp false (s.drop (i+k+runN neC (s.drop (i+k)))):=by
      have:=skp_pct hd;rwa[List.drop_drop]at this
     have hle2:=runN_le neC (s.drop (i+k))
     rw[List.length_drop]at hle2
     have hpos:1≤runN neC (s.drop (i+k)):=by rw[hd,runN,if_pos (by rfl)];omega
     have hrun2:=fun st1 hw=>run_tells (st:=st1) H.scan_run_string hw (s:=s.drop (i+k)) (f:= .fn 184 [] []) (p:=neC) (fun s' hw c=>skip1_tells H.scan_reader_skip_1 hw c) (by simp;omega)
     rw[hsk]at hb
     clear hsk
     generalize runN neC (s.drop (i+k))=k2 at*
     have ek2:IntKind.i64.wrap ((i:Int)+(k:Int)+(k2:Int))=((i+k+k2:Nat):Int):=by rw[wrap64' (by omega) (by omega)];omega
     have hsub2:asubS s (some (.int .i64 ((i:Int)+(k:Int)))) none=some (.str (s.drop (i+k))):=by rw[asubS_from (by omega) (by omega),htn]
     simp[go_sem,g0,RO.run,WO.run,q0,q1,he,hc,hik,htn,hsub2]
     have f2a:=f2.trans ((Ext.aside f2.wf 49).fr []) (by simp)
     refine(hrun2 _ f2a.wf).use fun s3 x3=> ?_
     have f3:=f2a.trans (x3.fr []) (by simp)
     have g3:=x3.get f2a.wf g2
     have w3:=rdrW (j:=i+k+k2) g3
     have p1:=rdr1 g3
     rw[Int.natCast_add]at p1
     simp[go_sem,g0,RO.run,WO.run,reI,p1,ek2]
     refine⟨rfl,?_⟩
     simp only[Int.natCast_add]at w3 ek2
     simp[go_sem,g0,RO.run,WO.run,p1,ek2,w3]
     have f4:=f3.trans (Frm.set f3.wf g3 (o:=rdrO l s (i+k+k2))) (by simp)
     have g4:=hget_hset_self (o:=rdrO l s (i+k+k2)) g3
     have hRR:R=k+(k2+skp false (s.drop (i+k+k2))):=hb
     rw[show i+R=i+k+k2+skp false (s.drop (i+k+k2))by omega]
     exact ih (i+k+k2) _ _ (by omega) (by omega) f4 g4 (by simp[go_sem])
    ·have h37:¬(c.toNat:Int)=37:=by rw[←UInt8.toNat_inj]at hc37;simp at hc37;omega
     have hz:skp false (s.drop (i+k))=0:=by rw[hd,skp,if_neg (by simp[hbk]),if_neg hc37]
     rw[hz]at hb
     simp at hb
     subst hb
     simp[go_sem,g0,RO.run,WO.run,q0,q1,he,hc,hik,htn,h37]
     exact⟨f2.trans ((Ext.aside f2.wf 26).fr []) (by simp),g2⟩
theorem skip_res (H:B.H_scan_reader_skip T) {s:List UInt8} {l:Bool} {p i:Nat} (hs:s.length<1000000000000) (hi:i≤s.length) (hwf:st.Wf) (g:hget st.h p=some (rdrO l s i)):
  CRes (call T (.fn 174 [] []) [.ptr p 0] st) fun v s'=>v= .tuple []∧Frm [p] st s'∧hget s'.h p=some (rdrO l s (i+skp false (s.drop i))):=by
 refine call_res H.e H.f rfl ?_
 simp[B.scan_reader_skip,go_sem]
 refine(skip_loop H hs (s.length - i+1) i _ st (by omega) hi (.refl hwf _) g (by simp[go_sem])).mono ?_
 rintro x e' s' ⟨h1,rfl,h3⟩
 simp[go_sem]
 exact⟨h1.dropLoc,by rw[hget_dropLoc_lt (hwf.lt _ _ g)];exact h3⟩
end Go.Ev

/- Tokens with a text; numbers out of octets. -/
namespace Go.Ev
open Go
set_option linter.unusedSimpArgs false
set_option linter.unusedSectionVars false
set_option linter.unusedVariables false
variable {T : Tab} {st : St}
abbrev T3:=(Int×Int×List UInt8)×Nat×Int
def tk3 (t:T3):AV:= .tuple [.agg [.int .i64 t.1.1,.int .i64 t.1.2.1,.str t.1.2.2],.int .i64 (t.2.1:Int),.int .i64 t.2.2]
def err3 (e:Int):T3:=((0,0,[]),0,e)
def textK (k:Int) (x:List UInt8) (n:Nat):T3:=
 if(k=6∧1000<x.length)∨(k≠6∧100<x.length)then err3 26 else if rightT k 0 x=true then((k,0,x),n,0)else err3 37
theorem zero_tok (h:Heap) (n:Nat):hget ((n,AObj.cells 134 true [.int .i64 0,.int .i64 0,.str []])::h) n=some (.cells 134 true [.int .i64 0,.int .i64 0,.str []]):=by simp[hget_cons]
theorem stray_tells (H:B.H_scan_reader_stray T) (hwf:st.Wf) {p:AV}:Tells T st (.fn 194 [] []) [p] (tk3 (err3 37)):=by
 refine tells_of H.e H.f rfl ?_
 have hx:=Ext.new hwf (.cells 134 true [.int .i64 0,.int .i64 0,.str []])
 have hg:=zero_tok st.h st.nx
 simp[B.scan_reader_stray,go_sem,NO.run,tok_wr hg,WO.run,fresults,resVals,resVal,RO.run,tok_rd (hget_hset_self hg),tk3,err3]
 exact hx.setNew (st:=st) hg (Nat.le_refl _)
theorem text_tells (H:B.H_scan_text T) (hwf:st.Wf) {k:Int} {x:List UInt8} {n:Nat} (hs:x.length<1000000000000):Tells T st (.fn 209 [] []) [.int .i64 k,.str x,.int .i64 (n:Int)] (tk3 (textK k x n)):=by
 refine tells_of H.e H.f rfl ?_
 have hx0:=Ext.new hwf (.cells 134 true [.int .i64 0,.int .i64 0,.str []])
 have hx:=hx0.trans (Ext.new hx0.wf (.cells 134 true [.int .i64 k,.int .i64 0,.str x]))
 have hg:hget ((st.nx+1,AObj.cells 134 true [.int .i64 k,.int .i64 0,.str x])::(st.nx,AObj.cells 134 true [.int .i64 0,.int .i64 0,.str []])::st.h) st.nx=some (.cells 134 true [.int .i64 0,.int .i64 0,.str []]):=by simp[hget_cons]
 have hg2:hget ((st.nx+1,AObj.cells 134 true [.int .i64 k,.int .i64 0,.str x])::(st.nx,AObj.cells 134 true [.int .i64 0,.int .i64 0,.str []])::st.h) (st.nx+1)=some (.cells 134 true [.int .i64 k,.int .i64 0,.str x]):=by simp[hget_cons]
 simp only[Nat.add_assoc,Nat.reduceAdd]at hx
 have bad:∀{s1:St},Ext st s1→hget s1.h st.nx=some (.cells 134 true [.int .i64 0,.int .i64 0,.str []])→∀k n t,Ext st ⟨hset s1.h st.nx (.cells 134 true [.int .i64 k,.int .i64 n,.str t]),s1.nx⟩:=fun e1 g1 k n t=>e1.setNew g1 (Nat.le_refl _)
 have fin:∀s1,Ext st s1→hget s1.h st.nx=some (.cells 134 true [.int .i64 0,.int .i64 0,.str []])→True:=fun _ _ _=>trivial
 obtain⟨b,hb⟩:∃b:Bool,b=(decide (k=6∧1000<x.length) || decide (k≠6∧100<x.length)):=⟨_,rfl⟩
 simp[B.scan_text,go_sem,NO.run,wr_tok,Nat.add_assoc]
 unfold textK
 by_cases hk:k=6
 ·subst hk
  by_cases hl:1000<x.length
  ·have hl':(1000:Int)<x.length:=by omega
   simp[go_sem,hl,hl',tok_wr hg,WO.run,fresults,resVals,resVal,RO.run,tok_rd (hget_hset_self hg),tk3,err3]
   exact bad (s1:=⟨_,_⟩) hx hg _ _ _
  ·have hl':¬(1000:Int)<x.length:=by omega
   simp[go_sem,hl,hl',RO.run,rd_tok]
   refine(check_tells H.lex_Check hx.wf (by omega)).use fun s1 x1=> ?_
   have y1:=hx.trans x1
   have g1:=x1.get hx.wf hg
   have g2:=x1.get hx.wf hg2
   cases hr:rightT 6 0 x with
   | false=>
     simp[go_sem,hr,tok_wr g1,WO.run,fresults,resVals,resVal,RO.run,tok_rd (hget_hset_self g1),tk3,err3]
     exact bad y1 g1 _ _ _
   | true=>
     simp[go_sem,hr,tok_rd g2,tok_wr g1,WO.run,fresults,resVals,resVal,RO.run,tok_rd (hget_hset_self g1),tk3,err3]
     exact bad y1 g1 _ _ _
 ·by_cases hl:100<x.length
  ·have hl':(100:Int)<x.length:=by omega
   simp[go_sem,hk,hl,hl',tok_wr hg,WO.run,fresults,resVals,resVal,RO.run,tok_rd (hget_hset_self hg),tk3,err3]
   exact bad (s1:=⟨_,_⟩) hx hg _ _ _
  ·have hl':¬(100:Int)<x.length:=by omega
   simp[go_sem,hk,hl,hl',RO.run,rd_tok]
   refine(check_tells H.lex_Check hx.wf (by omega)).use fun s1 x1=> ?_
   have y1:=hx.trans x1
   have g1:=x1.get hx.wf hg
   have g2:=x1.get hx.wf hg2
   cases hr:rightT k 0 x with
   | false=>
     simp[go_sem,hr,tok_wr g1,WO.run,fresults,resVals,resVal,RO.run,tok_rd (hget_hset_self g1),tk3,err3]
     exact bad y1 g1 _ _ _
   | true=>
     simp[go_sem,hr,tok_rd g2,tok_wr g1,WO.run,fresults,resVals,resVal,RO.run,tok_rd (hget_hset_self g1),tk3,err3]
     exact bad y1 g1 _ _ _
theorem refNamed_tells (H:B.H_chaseref04_named T) (hwf:st.Wf) {k:Int} {x:List UInt8} {n:Nat} (hs:x.length<1000000000000):Tells T st (.fn 187 [] []) [.int .i64 k,.str x,.int .i64 (n:Int)] (tk3 (textK k x n)):=by
 refine tells_of H.e H.f rfl ?_
 have hx0:=Ext.new hwf (.cells 134 true [.int .i64 0,.int .i64 0,.str []])
 have hx:=hx0.trans (Ext.new hx0.wf (.cells 134 true [.int .i64 k,.int .i64 0,.str x]))
 have hg:hget ((st.nx+1,AObj.cells 134 true [.int .i64 k,.int .i64 0,.str x])::(st.nx,AObj.cells 134 true [.int .i64 0,.int .i64 0,.str []])::st.h) st.nx=some (.cells 134 true [.int .i64 0,.int .i64 0,.str []]):=by simp[hget_cons]
 have hg2:hget ((st.nx+1,AObj.cells 134 true [.int .i64 k,.int .i64 0,.str x])::(st.nx,AObj.cells 134 true [.int .i64 0,.int .i64 0,.str []])::st.h) (st.nx+1)=some (.cells 134 true [.int .i64 k,.int .i64 0,.str x]):=by simp[hget_cons]
 simp only[Nat.add_assoc,Nat.reduceAdd]at hx
 have bad:∀{s1:St},Ext st s1→hget s1.h st.nx=some (.cells 134 true [.int .i64 0,.int .i64 0,.str []])→∀k n t,Ext st ⟨hset s1.h st.nx (.cells 134 true [.int .i64 k,.int .i64 n,.str t]),s1.nx⟩:=fun e1 g1 k n t=>e1.setNew g1 (Nat.le_refl _)
 simp[B.chaseref04_named,go_sem,NO.run,wr_tok,Nat.add_assoc]
 unfold textK
 by_cases hk:k=6
 ·subst hk
  by_cases hl:1000<x.length
  ·have hl':(1000:Int)<x.length:=by omega
   simp[go_sem,hl,hl',tok_wr hg,WO.run,fresults,resVals,resVal,RO.run,tok_rd (hget_hset_self hg),tk3,err3]
   exact bad (s1:=⟨_,_⟩) hx hg _ _ _
  ·have hl':¬(1000:Int)<x.length:=by omega
   simp[go_sem,hl,hl',RO.run,rd_tok]
   refine(refRight_tells H.chaseref03_Right hx.wf (by omega)).use fun s1 x1=> ?_
   have y1:=hx.trans x1
   have g1:=x1.get hx.wf hg
   have g2:=x1.get hx.wf hg2
   cases hr:rightT 6 0 x with
   | false=>
     simp[go_sem,hr,tok_wr g1,WO.run,fresults,resVals,resVal,RO.run,tok_rd (hget_hset_self g1),tk3,err3]
     exact bad y1 g1 _ _ _
   | true=>
     simp[go_sem,hr,tok_rd g2,tok_wr g1,WO.run,fresults,resVals,resVal,RO.run,tok_rd (hget_hset_self g1),tk3,err3]
     exact bad y1 g1 _ _ _
 ·by_cases hl:100<x.length
  ·have hl':(100:Int)<x.length:=by omega
   simp[go_sem,hk,hl,hl',tok_wr hg,WO.run,fresults,resVals,resVal,RO.run,tok_rd (hget_hset_self hg),tk3,err3]
   exact bad (s1:=⟨_,_⟩) hx hg _ _ _
  ·have hl':¬(100:Int)<x.length:=by omega
   simp[go_sem,hk,hl,hl',RO.run,rd_tok]
   refine(refRight_tells H.chaseref03_Right hx.wf (by omega)).use fun s1 x1=> ?_
   have y1:=hx.trans x1
   have g1:=x1.get hx.wf hg
   have g2:=x1.get hx.wf hg2
   cases hr:rightT k 0 x with
   | false=>
     simp[go_sem,hr,tok_wr g1,WO.run,fresults,resVals,resVal,RO.run,tok_rd (hget_hset_self g1),tk3,err3]
     exact bad y1 g1 _ _ _
   | true=>
     simp[go_sem,hr,tok_rd g2,tok_wr g1,WO.run,fresults,resVals,resVal,RO.run,tok_rd (hget_hset_self g1),tk3,err3]
     exact bad y1 g1 _ _ _
theorem follows_tells (H:B.H_scan_reader_follows T) (hwf:st.Wf) {p i:Nat} {s:List UInt8} {l:Bool} (g:hget st.h p=some (rdrO l s i)) (hs:s.length<1000000000000) (hi:i<s.length) {c:UInt8}:
  Tells T st (.fn 210 [] []) [.ptr p 0,.int .u8 (c.toNat:Int)] (.bool (s[i+1]? == some c)):=by
 refine tells_of H.e H.f rfl ?_
 have q0:=rdr0 g
 have q1:=rdr1 g
 obtain⟨I,hI⟩:∃I:Int,I=(i:Int):=⟨_,rfl⟩
 obtain⟨w,hw⟩:∃w:Int,w=(i:Int)+1:=⟨_,rfl⟩
 have ek:IntKind.i64.wrap (I+1)=w:=by rw[hI,wrap64' (by omega) (by omega),hw]
 rw[←hI]at q1
 by_cases h:i+1<s.length
 ·obtain⟨d,hd,_⟩:=idx_some h
  have h':w<s.length:=by omega
  have hn:(0:Int)≤w:=by omega
  have ht:w.toNat=i+1:=by omega
  have hcd:((d.toNat:Int)=(c.toNat:Int))↔d=c:=by rw[←UInt8.toNat_inj];omega
  rw[hd]
  clear h hs hi hI hw
  simp[B.scan_reader_follows,go_sem,RO.run,q1,ek]
  simp[go_sem,RO.run,q0,ek,h']
  simp[go_sem,RO.run,q1,ek,hd,hn,ht,hcd]
  refine⟨by by_cases e:d=c <;> simp[e],Ext.aside hwf 30⟩
 ·have hd:s[i+1]? =none:=List.getElem?_eq_none (by omega)
  have h':¬w<s.length:=by omega
  rw[hd]
  clear h hs hi hI hw
  simp[B.scan_reader_follows,go_sem,RO.run,q1,ek]
  simp[go_sem,RO.run,q0,ek,h']
  exact Ext.aside hwf 30
end Go.Ev
