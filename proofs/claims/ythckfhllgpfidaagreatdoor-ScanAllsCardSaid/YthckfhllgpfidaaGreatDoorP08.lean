/- The abstract bodies of the functions, printed by a program of this work. -/
import Derived.Test.YthckfhllgpfidaaGreatDoorP07
set_option linter.unusedSimpArgs false
set_option linter.unusedVariables false
set_option linter.unusedSectionVars false
namespace Go.Ev.B
open Go
def Um:Zx:=(.seq (.Zi [42,43]) (.seq (.Zd [p 44 (.bin .lss 43 (.k (.int .i64 2)))]) (.seq (.cond 44 .skip (.exit 0)) (.seq (.block 1 (.seq (.Zd [p 45
 (.Zs3 2 1 none 42 43),p 12 (.Za 45)]) (.seq (.Zd [p 47 (.Za 12),w 48 (.call (.k (.fn 162 [] [])) [47]),p 46 (.Za 48),p 49 (.Zt 0 46),p 50 (.Zt 1 46),p 51 (.Zt 2 46),
 p 13 (.Za 49),p 14 (.Za 50),p 15 (.Za 51)]) (.seq (.Zi [12,13,14,15,42,43]) (.seq (.Zd [p 53 (.Za 12),w 54 (.call (.k (.fn 163 [] [])) [53]),p 52 (.Za 54),p 55 (.Zt
 0 52),p 56 (.Zt 1 52),p 57 (.Zt 2 52),p 16 (.Za 55),p 17 (.Za 56),p 18 (.Za 57)]) (.seq (.Zi [13,14,15,16,17,18,42,43]) (.seq (.Zd [p 58 (.Za 13),p 59 (.Za
 16),w 60 (.call (.k (.fn 164 [] [])) [58,59]),p 61 (.un .not 60),p 62 (.Za 61),pg 63 62 false (.Za 14),pg 64 62 false (.Za 17),pg 65 62 false (.bin .neq 63 64),p 66 (.pick
 62 (.k (.bool true)) 65),p 67 (.Za 66),pg 68 67 false (.Za 15),pg 69 67 false (.Za 18),pg 70 67 false (.bin .neq 68 69),p 71 (.pick 67 (.k (.bool true)) 70)]) (.seq (.Zi [42,
 43,71]) (.cond 71 (.seq (.Zd [p 8 (.Za (.k (.bool false)))]) .ret) .skip))))))))) (.seq (.Zi [42,43]) (.Zd [p 72 (.bin .add 43 (.k (.int .i64 1))),p 43 (.Za 72)]))))))
def Uh:Z8:=⟨4,[.t 8],(.seq (.Zd [p 8 (.Za (.k (.bool false)))]) (.seq (.seq (.Zd [w 19 (.call (.k (.fn 157 [] [])) []),p 20 (.un .not 19)]) (.cond 20 (.seq
 (.Zd [p 8 (.Za (.k (.bool false)))]) .ret) .skip)) (.seq (.Zd [p 21 (.Za 1),w 22 (.call (.k (.fn 160 [] [])) [21]),p 9 (.Za 22)]) (.seq (.Zd [p 23 (.Za 9),w 24 (.call (.k
 (.fn 161 [] [])) [23]),p 25 (.bin .add 24 (.k (.str [32]))),n 26 (.s2b 5 25),p 10 (.Za 26)]) (.seq (.Zd [p 27 (.Za 10),p 28 (.Za 2),p 29 (.conv .i64 28),p 30 (.Za 10),p
 31 (.lenOf false 30),p 32 (.bin .rem 29 31),p 33 (.Za 3),p 34 (.Vn 1 27 32),w0 (.store 1 34 33)]) (.seq (.Zi [0,10]) (.seq (.seq (.Y7 [.op 5 (p 40 (.Za 10)),.op 6 (r
 41 (.b2s 40)),.op 0 (p 35 (.Za 0)),.op 1 (p 36 (.Za 0)),.op 2 (p 37 (.lenOf true 36)),.op 3 (p 38 (.Dy false [37,(.k (.int .i64 300))])),.op 4 (p 39 (.Lg 35 none (some
 38))),.op 7 (p 42 (.build [(.str []),(.str [])] [(0,1,39),(1,1,41)])),.op 8 (p 43 (.Za (.k (.int .i64 0))))]) (.seq (.Zi [42,43]) (.block 0 (.loop Um))))
 (.seq (.Zi []) (.seq (.Zd [p 8 (.Za (.k (.bool true)))]) .ret)))))))))⟩
def Ut:Z8:=⟨0,[.t 0],(.seq (.Zd [p 0 (.Za (.k (.bool false)))]) (.seq (.Zd [p 17 (.build [(.int .i64 0),(.int .i64 0),(.str [])] [(0,1,(.k (.int .i64 4))),
 (2,1,(.k (.str [97])))]),p 18 (.build [(.int .i64 0),(.int .i64 0),(.str [])] [(0,1,(.k (.int .i64 7)))]),w 19 (.call (.k (.fn 173 [] [])) [(.k (.int .i64 1))]),p 20 (.build
 [(.int .i64 0),(.int .i64 0),(.str [])] [(0,1,(.k (.int .i64 2))),(1,1,(.k (.int .i64 32768)))]),p 21 (.build [(.int .i64 0),(.int .i64 0),(.str [])] [(0,1,(.k (.int .i64
 8)))]),p 22 (.build [(.int .i64 0),(.int .i64 0),(.str [])] [(0,1,(.k (.int .i64 5))),(2,1,(.k (.str [98])))]),n 23 (.Qo 134 6 [(.int .i64 0),(.int .i64 0),(.str []),
 (.int .i64 0),(.int .i64 0),(.str []),(.int .i64 0),(.int .i64 0),(.str []),(.int .i64 0),(.int .i64 0),(.str []),(.int .i64 0),(.int .i64 0),(.str []),(.int .i64 0),(.int
 .i64 0),(.str [])] [(0,3,17),(3,3,18),(6,3,19),(9,3,20),(12,3,21),(15,3,22)]),w 24 (.call (.k (.fn 168 [] [])) [(.k (.str [47,97,123,49,32,46,53,125,47,47,
 98])),23]),p 1 (.Za 24)]) (.seq (.Zi [1]) (.seq (.Zd [p 25 (.Za 1),p 26 (.Za 25),wg 27 26 true (.call (.k (.fn 172 [] [])) [(.k (.str [91]))]),wg 28 26 true (.call (.k (.fn
 172 [] [])) [(.k (.str [60,60]))]),wg 29 26 true (.call (.k (.fn 172 [] [])) [(.k (.str [62,62]))]),wg 30 26 true (.call (.k (.fn 172 [] [])) [(.k (.str [93]))]),wg 31 26 true
 (.call (.k (.fn 171 [] [])) [(.k (.str [121]))]),wg 32 26 true (.call (.k (.fn 171 [] [])) [(.k (.str [65]))]),ng 33 26 true (.Qo 134 6 [(.int .i64 0),(.int .i64 0),(.str []),
 (.int .i64 0),(.int .i64 0),(.str []),(.int .i64 0),(.int .i64 0),(.str []),(.int .i64 0),(.int .i64 0),(.str []),(.int .i64 0),(.int .i64 0),(.str []),(.int .i64 0),(.int
 .i64 0),(.str [])] [(0,3,27),(3,3,28),(6,3,29),(9,3,30),(12,3,31),(15,3,32)]),wg 34 26 true (.call (.k (.fn 168 [] [])) [(.k (.str [91,60,60,32,62,62,93,37,
 120,10,40,121,41,60,52,49,62])),33]),p 35 (.pick 26 34 (.k (.bool false))),p 1 (.Za 35)]) (.seq (.Zi [1]) (.seq (.Zd [p 36 (.Za 1),p 37 (.Za 36),wg 38 37 true (.call
 (.k (.fn 173 [] [])) [(.k (.int .i64 (-1)))]),wg 39 37 true (.call (.k (.fn 173 [] [])) [(.k (.int .i64 256))]),wg 40 37 true (.call (.k (.fn 171 [] [])) [(.k (.str [97,98]))]),
 wg 41 37 true (.call (.k (.fn 172 [] [])) [(.k (.str [113]))]),ng 42 37 true (.Qo 134 4 [(.int .i64 0),(.int .i64 0),(.str []),(.int .i64 0),(.int .i64 0),(.str []),(.int
 .i64 0),(.int .i64 0),(.str []),(.int .i64 0),(.int .i64 0),(.str [])] [(0,3,38),(3,3,39),(6,3,40),(9,3,41)]),wg 43 37 true (.call (.k (.fn 168 [] [])) [(.k (.str [129,
 255,130,1,0,132,2,97,98,135,1,113])),42]),p 44 (.pick 37 43 (.k (.bool false))),p 1 (.Za 44)]) (.seq (.Zi [1]) (.seq (.Zd [w 46 (.call (.k (.fn 158 [] [])) [(.k (.str
 [32,32,41])),(.k (.int .i64 0))]),p 45 (.Za 46),p 47 (.Zt 0 45),p 48 (.Zt 1 45),p 49 (.Zt 2 45),n 2 (.alloc 134 true [(.int .i64 0),(.int .i64 0),(.str [])]),w0 (.store
 3 2 47),p 3 (.Za 48),p 4 (.Za 49)]) (.seq (.Zi [1,3,4]) (.seq (.Zd [w 51 (.call (.k (.fn 158 [] [])) [(.k (.str [97])),(.k (.int .i64 2))]),p 50 (.Za 51),p 52 (.Zt 0
 50),p 53 (.Zt 1 50),p 54 (.Zt 2 50),n 5 (.alloc 134 true [(.int .i64 0),(.int .i64 0),(.str [])]),w0 (.store 3 5 52),p 6 (.Za 53),p 7 (.Za 54)]) (.seq (.Zi [1,3,4,
 6,7]) (.seq (.Zd [w 56 (.call (.k (.fn 158 [] [])) [(.k (.str [32,37,32,120])),(.k (.int .i64 0))]),p 55 (.Za 56),p 57 (.Zt 0 55),p 58 (.Zt 1 55),p 59 (.Zt 2 55),n
 8 (.alloc 134 true [(.int .i64 0),(.int .i64 0),(.str [])]),w0 (.store 3 8 57),p 9 (.Za 58),p 10 (.Za 59)]) (.seq (.Zi [1,3,4,6,7,9,10]) (.seq (.Zd [w 61 (.call (.k
 (.fn 173 [] [])) [(.k (.int .i64 1))]),w 62 (.call (.k (.fn 172 [] [])) [(.k (.str [97]))]),w 63 (.call (.k (.fn 171 [] [])) [(.k (.str [40]))]),n 64 (.Qo 134 3 [(.int .i64
 0),(.int .i64 0),(.str []),(.int .i64 0),(.int .i64 0),(.str []),(.int .i64 0),(.int .i64 0),(.str [])] [(0,3,61),(3,3,62),(6,3,63)]),w 65 (.call (.k (.fn 165 [] []))
 [64]),p 60 (.Za 65),p 66 (.Zt 0 60),p 67 (.Zt 1 60),p 11 (.Za 66),p 12 (.Za 67)]) (.seq (.Zi [1,3,4,6,7,9,10,11,12]) (.seq (.Zd [w 69 (.call (.k (.fn 173 [] []))
 [(.k (.int .i64 128))]),w 70 (.call (.k (.fn 166 [] [])) [69]),p 68 (.Za 70),p 71 (.Zt 0 68),p 72 (.Zt 1 68),p 13 (.Za 71),p 14 (.Za 72)]) (.seq (.Zd [w 74 (.call (.k
 (.fn 173 [] [])) [(.k (.int .i64 (-128)))]),w 75 (.call (.k (.fn 166 [] [])) [74]),p 73 (.Za 75),p 76 (.Zt 0 73),p 77 (.Zt 1 73),p 15 (.Za 76),p 16 (.Za 77)]) (.seq (.Zd
 [p 78 (.Za 1),p 79 (.Za 78),pg 80 79 true (.Za 4),pg 81 79 true (.bin .eql 80 (.k (.int .i64 37))),p 82 (.pick 79 81 (.k (.bool false))),p 83 (.Za 82),pg 84 83 true (.Za
 3),pg 85 83 true (.bin .eql 84 (.k (.int .i64 2))),p 86 (.pick 83 85 (.k (.bool false))),p 87 (.Za 86),pg 88 87 true (.Za 7),pg 89 87 true (.bin .eql 88 (.k (.int .i64 2))),
 p 90 (.pick 87 89 (.k (.bool false))),p 91 (.Za 90),pg 92 91 true (.Za 6),pg 93 91 true (.bin .eql 92 (.k (.int .i64 0))),p 94 (.pick 91 93 (.k (.bool false))),p 95 (.Za 94),
 pg 96 95 true (.Za 10),pg 97 95 true (.bin .eql 96 (.k (.int .i64 4))),p 98 (.pick 95 97 (.k (.bool false))),p 99 (.Za 98),pg 100 99 true (.Za 9),pg 101 99 true (.bin .eql 100
 (.k (.int .i64 4))),p 102 (.pick 99 101 (.k (.bool false))),p 103 (.Za 102),pg 104 103 true (.Za 12),pg 105 103 true (.bin .eql 104 (.k (.int .i64 0))),p 106 (.pick 103 105 (.k
 (.bool false))),p 107 (.Za 106),pg 108 107 true (.Za 11),pg 109 107 true (.bin .eql 108 (.k (.str [49,32,97,32,40,92,40,41]))),p 110 (.pick 107 109 (.k (.bool false))),
 p 111 (.Za 110),pg 112 111 true (.Za 14),pg 113 111 true (.bin .eql 112 (.k (.int .i64 0))),p 114 (.pick 111 113 (.k (.bool false))),p 115 (.Za 114),pg 116 115 true (.Za 13),
 pg 117 115 true (.bin .eql 116 (.k (.str [130,0,128]))),p 118 (.pick 115 117 (.k (.bool false))),p 119 (.Za 118),pg 120 119 true (.Za 16),pg 121 119 true (.bin .eql 120 (.k
 (.int .i64 0))),p 122 (.pick 119 121 (.k (.bool false))),p 123 (.Za 122),pg 124 123 true (.Za 15),pg 125 123 true (.bin .eql 124 (.k (.str [129,128]))),p 126 (.pick 123 125
 (.k (.bool false))),p 1 (.Za 126)]) (.seq (.Zi [1]) (.seq (.Zd [p 127 (.Za 1),p 128 (.Za 127),wg 129 128 true (.call (.k (.fn 170 [] [])) [(.k (.str [49,32,62,32,50])),
 (.k (.int .i64 2)),(.k (.int .i64 37))]),p 130 (.pick 128 129 (.k (.bool false))),p 131 (.Za 130),wg 132 131 true (.call (.k (.fn 170 [] [])) [(.k (.str [60,52,103,62])),(.k
 (.int .i64 0)),(.k (.int .i64 37))]),p 133 (.pick 131 132 (.k (.bool false))),p 134 (.Za 133),wg 135 134 true (.call (.k (.fn 170 [] [])) [(.k (.str [137])),(.k (.int .i64 0)),
 (.k (.int .i64 37))]),p 136 (.pick 134 135 (.k (.bool false))),p 137 (.Za 136),wg 138 137 true (.call (.k (.fn 170 [] [])) [(.k (.str [132,5,97])),(.k (.int .i64 0)),(.k (.int
 .i64 37))]),p 139 (.pick 137 138 (.k (.bool false))),p 0 (.Za 139)]) .ret))))))))))))))))))))⟩
def Mm:Z8:=⟨2,[.cell 4 (some 3),.t 5,.t 6],(.seq (.Zd [n 4 (.alloc 134 true [(.int .i64 0),(.int .i64 0),(.str [])]),p 5 (.Za (.k (.int .i64 0))),p 6 (.Za (.k
 (.int .i64 0)))]) (.seq (.seq (.Zd [p 11 (.Za 0),p 12 (.lenOf true 11),p 13 (.bin .gtr 12 (.k (.int .i64 65536)))]) (.cond 13 (.seq (.Zd [p 14 (.build [(.int .i64 0),(.int .i64
 0),(.str [])] []),w0 (.store 3 4 14),p 5 (.Za (.k (.int .i64 0))),p 6 (.Za (.k (.int .i64 3)))]) .ret) .skip)) (.seq (.seq (.Zd [p 15 (.Za 1),p 16 (.bin .lss 15 (.k (.int .i64
 0))),p 17 (.Za 16),pg 18 17 false (.Za 1),pg 19 17 false (.Za 0),pg 20 17 false (.lenOf true 19),pg 21 17 false (.bin .gtr 18 20),p 22 (.pick 17 (.k (.bool true)) 21)]) (.seq
 (.Zi [0,1,4,22]) (.cond 22 (.seq (.Zd [p 23 (.build [(.int .i64 0),(.int .i64 0),(.str [])] []),w0 (.store 3 4 23),p 5 (.Za (.k (.int .i64 0))),p 6 (.Za (.k (.int .i64
 2)))]) .ret) .skip))) (.seq (.Zi [0,1,4]) (.seq (.Zd [p 24 (.Za 0),p 25 (.Za 1),p 26 (.build [(.str []),(.int .i64 0)] [(0,1,24),(1,1,25)]),p 27 (.build [(.str []),
 (.int .i64 0)] [(0,2,26)]),n 28 (.box 278 false 27),p 7 (.Za 28)]) (.seq (.Zd [p 29 (.Za 7),w 30 (.call (.k (.fn 174 [] [])) [29])]) (.seq (.seq (.Zd [p 31 (.Za 7),p 32 (.Z6
 31),p 33 (.Zj 0 32),p 34 (.Zj 1 33),r 35 (.load none 34),p 36 (.Za 0),p 37 (.lenOf true 36),p 38 (.bin .eql 35 37)]) (.seq (.Zi [4,7,38]) (.cond 38 (.seq (.Y7 [.op
 1 (p 40 (.Za 7)),.op 2 (p 41 (.Z6 40)),.op 3 (p 42 (.Zj 0 41)),.op 4 (p 43 (.Zj 1 42)),.op 5 (r 44 (.load none 43)),.op 0 (p 39 (.build [(.int .i64 0),(.int .i64 0),
 (.str [])] [])),.op 6 (w0 (.store 3 4 39)),.re 5,.op 7 (p 5 (.Za 44)),.op 8 (p 6 (.Za (.k (.int .i64 4))))]) .ret) .skip))) (.seq (.Zi [4,7]) (.seq (.Zd [p 46 (.Za 7),w
 47 (.call (.k (.fn 175 [] [])) [46]),p 45 (.Za 47),p 48 (.Zt 0 45),p 49 (.Zt 1 45),p 50 (.Zt 2 45),n 8 (.alloc 134 true [(.int .i64 0),(.int .i64 0),(.str [])]),w0 (.store
 3 8 48),p 9 (.Za 49),p 10 (.Za 50)]) (.seq (.Zi [4,7,8,9,10]) (.seq (.Y7 [.op 0 (r 51 (.load (some 3) 8)),.op 1 (p 52 (.Za 7)),.op 2 (p 53 (.Z6 52)),.op 3 (p 54 (.Zj
 0 53)),.op 4 (p 55 (.Zj 1 54)),.op 5 (r 56 (.load none 55)),.op 9 (w0 (.store 3 4 51)),.re 5,.op 6 (p 57 (.Za 9)),.op 7 (p 58 (.bin .add 56 57)),.op 8 (p 59 (.Za 10)),.op
 10 (p 5 (.Za 58)),.op 11 (p 6 (.Za 59))]) .ret)))))))))))⟩
def K1:Z8:=⟨2,[.cell 4 (some 3),.t 5,.t 6],(.seq (.Zd [n 4 (.alloc 134 true [(.int .i64 0),(.int .i64 0),(.str [])]),p 5 (.Za (.k (.int .i64 0))),p 6 (.Za
 (.k (.int .i64 0)))]) (.seq (.seq (.Zd [p 11 (.Za 0),p 12 (.lenOf true 11),p 13 (.bin .gtr 12 (.k (.int .i64 65536)))]) (.cond 13 (.seq (.Zd [p 14 (.build [(.int .i64 0),(.int
 .i64 0),(.str [])] []),w0 (.store 3 4 14),p 5 (.Za (.k (.int .i64 0))),p 6 (.Za (.k (.int .i64 3)))]) .ret) .skip)) (.seq (.seq (.Zd [p 15 (.Za 1),p 16 (.bin .lss 15 (.k (.int
 .i64 0))),p 17 (.Za 16),pg 18 17 false (.Za 1),pg 19 17 false (.Za 0),pg 20 17 false (.lenOf true 19),pg 21 17 false (.bin .gtr 18 20),p 22 (.pick 17 (.k (.bool true)) 21)])
 (.seq (.Zi [0,1,4,22]) (.cond 22 (.seq (.Zd [p 23 (.build [(.int .i64 0),(.int .i64 0),(.str [])] []),w0 (.store 3 4 23),p 5 (.Za (.k (.int .i64 0))),p 6 (.Za (.k (.int
 .i64 2)))]) .ret) .skip))) (.seq (.Zi [0,1,4]) (.seq (.Zd [p 24 (.Za 0),p 25 (.Za 1),w 26 (.call (.k (.fn 176 [] [])) [24,25]),p 7 (.Za 26)]) (.seq (.seq (.Zd [p 27 (.Za
 7),p 28 (.Za 0),p 29 (.lenOf true 28),p 30 (.bin .eql 27 29)]) (.cond 30 (.seq (.Zd [p 31 (.build [(.int .i64 0),(.int .i64 0),(.str [])] []),p 32 (.Za 7),w0 (.store 3 4 31),
 p 5 (.Za 32),p 6 (.Za (.k (.int .i64 4)))]) .ret) .skip)) (.seq (.Zi [0,4,7]) (.seq (.Zd [p 34 (.Za 0),p 35 (.Za 7),w 36 (.call (.k (.fn 177 [] [])) [34,35]),p 33 (.Za
 36),p 37 (.Zt 0 33),p 38 (.Zt 1 33),p 39 (.Zt 2 33),n 8 (.alloc 134 true [(.int .i64 0),(.int .i64 0),(.str [])]),w0 (.store 3 8 37),p 9 (.Za 38),p 10 (.Za 39)]) (.seq
 (.Zi [4,7,8,9,10]) (.seq (.seq (.Zd [p 40 (.Za 10),p 41 (.bin .neq 40 (.k (.int .i64 0)))]) (.cond 41 (.seq (.Zd [p 42 (.build [(.int .i64 0),(.int .i64 0),(.str [])] []),
 p 43 (.Za 7),p 44 (.Za 10),w0 (.store 3 4 42),p 5 (.Za 43),p 6 (.Za 44)]) .ret) .skip)) (.seq (.Zi [4,8,9]) (.seq (.Zd [r 45 (.load (some 3) 8),p 46 (.Za 9),w0 (.store
 3 4 45),p 5 (.Za 46),p 6 (.Za (.k (.int .i64 0)))]) .ret))))))))))))⟩
def K9:Zx:=(.seq (.Zi [0,3,4]) (.seq (.seq (.Zd [p 5 (.Za 4),p 6 (.Za 0),p 7 (.lenOf false 6),p 8 (.bin .lss 5 7),p 9 (.Za 8),pg 10 9 true (.Za
 4),pg 11 9 true (.bin .lss 10 (.k (.int .i64 40))),p 12 (.pick 9 11 (.k (.bool false)))]) (.cond 12 .skip (.exit 0))) (.seq (.Zi [0,3,4]) (.seq (.block 1 (.Zd [p 15 (.Za 3),
 p 16 (.Za 0),p 17 (.Za 4),p 18 (.Vn 3 16 17),r 19 (.load (some 3) 18),w 20 (.call (.k (.fn 127 [] [])) [19]),n 21 (.Qo 134 1 [(.int .i64 0),(.int .i64 0),(.str [])]
 [(0,3,20)]),w 22 (.append 134 3 32 [(.int .i64 0),(.int .i64 0),(.str [])] 15 21),p 3 (.Za 22)])) (.seq (.Zi [0,3,4]) (.Zd [p 13 (.Za 4),p 14 (.bin .add 13 (.k (.int .i64
 1))),p 4 (.Za 14)]))))))
def Vv:Z8:=⟨1,[.t 2],(.seq (.Zd [p 2 (.Za (.k .Zk))]) (.seq (.Zd [p 3 (.Za (.k .Zk))]) (.seq (.seq (.Zd [p 4 (.Za (.k (.int .i64 0)))]) (.block
 0 (.loop K9))) (.seq (.Zi [3]) (.seq (.Zd [p 23 (.Za 3),p 2 (.Za 23)]) .ret)))))⟩
def Yv:Zx:=(.seq (.Zi [0,3,4]) (.seq (.seq (.Zd [p 5 (.Za 4),p 6 (.Za 0),p 7 (.lenOf false 6),p 8 (.bin .lss 5 7)]) (.cond 8 .skip (.exit 0))) (.seq
 (.block 1 (.seq (.seq (.Zd [p 11 (.Za 4),p 12 (.bin .gtr 11 (.k (.int .i64 0)))]) (.cond 12 (.Zd [p 13 (.Za 3),p 14 (.bin .add 13 (.k (.str [32]))),p 3 (.Za 14)]) .skip)) (.Zd
 [p 15 (.Za 3),p 16 (.Za 0),p 17 (.Za 4),p 18 (.Vn 3 16 17),r 19 (.load (some 3) 18),w 20 (.call (.k (.fn 130 [] [])) [19]),p 21 (.bin .add 15 20),p 3 (.Za 21)]))) (.seq
 (.Zi [0,3,4]) (.Zd [p 9 (.Za 4),p 10 (.bin .add 9 (.k (.int .i64 1))),p 4 (.Za 10)])))))
def Uy:Z8:=⟨1,[.t 2],(.seq (.Zd [p 2 (.Za (.k (.str [])))]) (.seq (.Zd [p 3 (.Za (.k (.str [])))]) (.seq (.seq (.Zd [p 4 (.Za (.k (.int .i64 0)))]) (.block
 0 (.loop Yv))) (.seq (.Zi [3]) (.seq (.Zd [p 22 (.Za 3),p 2 (.Za 22)]) .ret)))))⟩
def Ha:Zx:=(.block 1 (.seq (.Y7 [.op 0 (p 12 (.Zj 3 8)),.op 1 (r 13 (.load none 12)),.op 2 (p 14 (.Zj 4 8)),.op 3 (r 15 (.load none 14)),.op 4 (w0 (.store
 1 6 13)),.re 3,.op 5 (w0 (.store 1 7 15))]) (.seq (.Zd [r 16 (.load none 7)]) (.block 2 (.seq (.Zd [p 18 (.bin .eql 16 (.k (.int .i64 0))),p 17 (.Za 18)]) (.cond 17 (.Zd [r 19
 (.load none 5),p 20 (.Zj 0 8),r 21 (.load (some 3) 20),n 22 (.Qo 134 1 [(.int .i64 0),(.int .i64 0),(.str [])] [(0,3,21)]),w 23 (.append 134 3 32 [(.int .i64 0),(.int
 .i64 0),(.str [])] 19 22),w0 (.store 1 5 23)]) (.exit 0)))))))
def R6:Z8:=⟨1,[.t 2,.t 3,.t 4],(.seq (.Zd [p 2 (.Za (.k .Zk)),p 3 (.Za (.k (.int .i64 0))),p 4 (.Za (.k (.int .i64 0)))]) (.scope (.seq (.Zd [n 5 (.alloc
 146 true [.Zk])]) (.seq (.Zd [n 6 (.alloc 3 true [(.int .i64 0)]),n 7 (.alloc 30 true [(.int .i64 0)]),w0 (.store 1 6 (.k (.int .i64 0))),w0 (.store 1 7 (.k (.int .i64 0)))])
 (.seq .skip (.seq (.seq (.Zd [p 9 (.Za 0),w 10 (.call (.k (.fn 178 [] [])) [9])]) (.block 0 (.rangeFunc 10 [11] (.Zd [n 8 (.alloc 284 true [(.int .i64 0),(.int .i64 0),(.str []),
 (.int .i64 0),(.int .i64 0)]),w0 (.store 5 8 11)]) Ha))) (.seq (.Zi [5,6,7]) (.seq (.seq (.Zd [r 24 (.load none 7),p 25 (.bin .neq 24 (.k (.int .i64 4)))]) (.cond 25
 (.seq (.Y7 [.op 0 (r 26 (.load none 6)),.op 1 (r 27 (.load none 7)),.op 2 (p 2 (.Za (.k .Zk))),.op 3 (p 3 (.Za 26)),.op 4 (p 4 (.Za 27))]) .ret) .skip)) (.seq (.Y7
 [.op 0 (r 28 (.load none 5)),.op 1 (r 29 (.load none 6)),.op 2 (p 2 (.Za 28)),.op 3 (p 3 (.Za 29)),.op 4 (p 4 (.Za (.k (.int .i64 0))))]) .ret)))))))))⟩
def Hp:Zx:=(.seq (.Zi [0,5,6]) (.block 1 (.seq (.Zd [p 11 (.Za 0),p 12 (.Za 6),w 13 (.call (.k (.fn 159 [] [])) [11,12]),p 10 (.Za 13),p 14 (.Zt
 0 10),p 15 (.Zt 1 10),p 16 (.Zt 2 10),n 7 (.alloc 134 true [(.int .i64 0),(.int .i64 0),(.str [])]),w0 (.store 3 7 14),p 8 (.Za 15),p 9 (.Za 16)]) (.seq (.Zi [0,5,
 7,8,9]) (.seq (.seq (.Zd [p 17 (.Za 9),p 18 (.bin .eql 17 (.k (.int .i64 4)))]) (.cond 18 (.seq (.Zd [p 19 (.Za 5),p 20 (.Za 8),p 2 (.Za 19),p 3 (.Za 20),p 4 (.Za (.k
 (.int .i64 0)))]) .ret) .skip)) (.seq (.seq (.Zd [p 21 (.Za 9),p 22 (.bin .neq 21 (.k (.int .i64 0)))]) (.cond 22 (.seq (.Zd [p 23 (.Za 8),p 24 (.Za 9),p 2 (.Za (.k .Zk)),
 p 3 (.Za 23),p 4 (.Za 24)]) .ret) .skip)) (.seq (.Zd [p 25 (.Za 5),r 26 (.load (some 3) 7),n 27 (.Qo 134 1 [(.int .i64 0),(.int .i64 0),(.str [])] [(0,3,26)]),w 28
 (.append 134 3 32 [(.int .i64 0),(.int .i64 0),(.str [])] 25 27),p 5 (.Za 28)]) (.Zd [p 29 (.Za 8),p 6 (.Za 29)]))))))))
def X5:Z8:=⟨1,[.t 2,.t 3,.t 4],(.seq (.Zd [p 2 (.Za (.k .Zk)),p 3 (.Za (.k (.int .i64 0))),p 4 (.Za (.k (.int .i64 0)))]) (.seq (.Zd [p 5 (.Za (.k
 .Zk))]) (.seq (.Zd [p 6 (.Za (.k (.int .i64 0)))]) (.block 0 (.loop Hp)))))⟩
def U7:Zx:=(.seq (.Zi [0,1,5]) (.seq (.seq (.Zd [p 11 (.Za 5),p 12 (.Za 0),p 13 (.lenOf false 12),p 14 (.bin .lss 11 13)]) (.cond 14 .skip (.exit 0)))
 (.seq (.block 1 (.seq (.Y7 [.op 0 (p 17 (.Za 0)),.op 1 (p 18 (.Za 5)),.op 2 (p 19 (.Vn 3 17 18)),.op 3 (r 20 (.load (some 3) 19)),.op 4 (p 21 (.Za 1)),.op 5 (p 22 (.Za
 5)),.op 6 (p 23 (.Vn 3 21 22)),.op 7 (r 24 (.load (some 3) 23)),.op 8 (p 25 (.eqA true [(.i .i64),(.i .i64),.s] 20 24))]) (.seq (.Zi [0,1,5,25]) (.cond 25 (.seq (.Zd
 [p 4 (.Za (.k (.bool false)))]) .ret) .skip)))) (.seq (.Zi [0,1,5]) (.Zd [p 15 (.Za 5),p 16 (.bin .add 15 (.k (.int .i64 1))),p 5 (.Za 16)])))))
def Ke:Z8:=⟨2,[.t 4],(.seq (.Zd [p 4 (.Za (.k (.bool false)))]) (.seq (.seq (.Zd [p 6 (.Za 0),p 7 (.lenOf false 6),p 8 (.Za 1),p 9 (.lenOf false 8),p 10
 (.bin .neq 7 9)]) (.cond 10 (.seq (.Zd [p 4 (.Za (.k (.bool false)))]) .ret) .skip)) (.seq (.seq (.Zd [p 5 (.Za (.k (.int .i64 0)))]) (.block 0 (.loop U7))) (.seq
 (.Zi []) (.seq (.Zd [p 4 (.Za (.k (.bool true)))]) .ret)))))⟩
def Zmc:Zx:=(.seq (.Zi [4,9,10,11]) (.seq (.Zd [p 12 (.bin .lss 11 10)]) (.seq (.cond 12 .skip (.exit 0)) (.seq (.block 1 (.seq (.Zd [p 13 (.Vn 3 9 11),
 r 14 (.load (some 3) 13),n 6 (.alloc 134 true [(.int .i64 0),(.int .i64 0),(.str [])]),w0 (.store 3 6 14)]) (.seq (.Zd [r 16 (.load (some 3) 6),w 17 (.call (.k (.fn 128 [] []))
 [16]),p 15 (.Za 17),p 18 (.Zt 0 15),p 19 (.Zt 1 15),p 7 (.Za 18),p 8 (.Za 19)]) (.seq (.seq (.Zd [p 20 (.Za 8),p 21 (.bin .neq 20 (.k (.int .i64 0)))]) (.cond 21 (.seq
 (.Zd [p 22 (.Za 8),p 2 (.Za (.k (.str []))),p 3 (.Za 22)]) .ret) .skip)) (.Zd [p 23 (.Za 4),p 24 (.Za 7),n 25 (.Qo 9 1 [(.str [])] [(0,1,24)]),w 26 (.append 9 1 16
 [(.str [])] 23 25),p 4 (.Za 26)]))))) (.seq (.Zi [4,9,10,11]) (.Zd [p 27 (.bin .add 11 (.k (.int .i64 1))),p 11 (.Za 27)]))))))
def O8:Z8:=⟨1,[.t 2,.t 3],(.seq (.Zd [p 2 (.Za (.k (.str []))),p 3 (.Za (.k (.int .i64 0)))]) (.seq (.Zd [p 4 (.Za (.k .Zk))]) (.seq (.seq (.Zd [p 9 (.Za
 0),p 10 (.lenOf false 9),p 11 (.Za (.k (.int .i64 0)))]) (.block 0 (.loop Zmc))) (.seq (.Zi [4]) (.seq (.Zd [p 28 (.Za 4),w 29 (.call (.k (.fn 179 [] [])) [28,(.k
 (.str [32]))]),p 2 (.Za 29),p 3 (.Za (.k (.int .i64 0)))]) .ret)))))⟩
def Zas:Z8:=⟨1,[.t 2,.t 3],(.seq (.Zd [n 1 (.box 134 true 0),p 2 (.Za (.k (.str []))),p 3 (.Za (.k (.int .i64 0)))]) (.seq (.seq (.Zd [r 6 (.load (some 3) 1),w
 7 (.call (.k (.fn 74 [] [])) [6]),p 4 (.Za 7)]) (.seq (.Zd [p 8 (.Za 4),p 9 (.bin .neq 8 (.k (.int .i64 0)))]) (.cond 9 (.seq (.Zd [p 10 (.Za 4),p 2 (.Za (.k (.str []))),p
 3 (.Za 10)]) .ret) .skip))) (.seq (.Zi [1]) (.seq (.Zd [p 11 (.Zj 2 1),r 12 (.load none 11),p 13 (.lenOf true 12),p 5 (.Za 13)]) (.seq (.seq (.Zd [p 14 (.Zj 0 1),r 15
 (.load none 14)]) (.block 0 (.seq (.Zd [p 17 (.bin .eql 15 (.k (.int .i64 1))),p 16 (.Za 17)]) (.cond 16 (.seq (.block 1 (.seq (.Zd [p 19 (.Zj 1 1),r 20 (.load none 19),p 21
 (.bin .geq 20 (.k (.int .i64 (-128)))),p 22 (.Za 21),pg 23 22 true (.Zj 1 1),rg 24 22 true (.load none 23),pg 25 22 true (.bin .lss 24 (.k (.int .i64 128))),p 26 (.pick 22
 25 (.k (.bool false))),p 18 (.Za 26)]) (.seq (.Zi [1,18]) (.cond 18 (.seq (.Zd [p 27 (.Zj 1 1),r 28 (.load none 27),w 29 (.call (.k (.fn 180 [] [])) [(.k (.int .u8 129)),
 28,(.k (.int .i64 1)),(.k (.str []))]),p 2 (.Za 29),p 3 (.Za (.k (.int .i64 0)))]) .ret) (.seq (.Zd [p 31 (.Zj 1 1),r 32 (.load none 31),p 33 (.bin .geq 32 (.k (.int .i64
 (-32768)))),p 34 (.Za 33),pg 35 34 true (.Zj 1 1),rg 36 34 true (.load none 35),pg 37 34 true (.bin .lss 36 (.k (.int .i64 32768))),p 38 (.pick 34 37 (.k (.bool false))),p
 30 (.Za 38)]) (.seq (.Zi [1,30]) (.cond 30 (.seq (.Zd [p 39 (.Zj 1 1),r 40 (.load none 39),w 41 (.call (.k (.fn 180 [] [])) [(.k (.int .u8 130)),40,(.k (.int .i64 2)),(.k
 (.str []))]),p 2 (.Za 41),p 3 (.Za (.k (.int .i64 0)))]) .ret) .skip))))))) (.seq (.Zi [1]) (.seq (.Zd [p 42 (.Zj 1 1),r 43 (.load none 42),w 44 (.call (.k (.fn 180 [] []))
 [(.k (.int .u8 128)),43,(.k (.int .i64 4)),(.k (.str []))]),p 2 (.Za 44),p 3 (.Za (.k (.int .i64 0)))]) .ret))) (.seq (.Zd [p 46 (.bin .eql 15 (.k (.int .i64 2))),p 45 (.Za
 46)]) (.cond 45 (.seq (.seq (.Zd [p 47 (.Zj 1 1),r 48 (.load none 47),p 49 (.bin .gtr 48 (.k (.int .i64 2147483647)))]) (.cond 49 (.seq (.Zd [p 2 (.Za (.k (.str []))),p 3 (.Za
 (.k (.int .i64 6)))]) .ret) .skip)) (.seq (.Zd [p 50 (.Zj 1 1),r 51 (.load none 50),w 52 (.call (.k (.fn 180 [] [])) [(.k (.int .u8 131)),51,(.k (.int .i64 4)),(.k (.str []))]),
 p 2 (.Za 52),p 3 (.Za (.k (.int .i64 0)))]) .ret)) (.seq (.Zd [p 54 (.bin .eql 15 (.k (.int .i64 6))),p 53 (.Za 54)]) (.cond 53 (.seq (.seq (.Zd [p 55 (.Za 5),p 56 (.bin .lss
 55 (.k (.int .i64 256)))]) (.cond 56 (.seq (.Zd [p 57 (.Za 5),p 58 (.Zj 2 1),r 59 (.load none 58),w 60 (.call (.k (.fn 180 [] [])) [(.k (.int .u8 132)),57,(.k (.int .i64 1)),
 59]),p 2 (.Za 60),p 3 (.Za (.k (.int .i64 0)))]) .ret) .skip)) (.seq (.Zi [1,5]) (.seq (.Zd [p 61 (.Za 5),p 62 (.Zj 2 1),r 63 (.load none 62),w 64 (.call (.k (.fn 180
 [] [])) [(.k (.int .u8 133)),61,(.k (.int .i64 2)),63]),p 2 (.Za 64),p 3 (.Za (.k (.int .i64 0)))]) .ret))) (.seq (.Zd [p 66 (.bin .eql 15 (.k (.int .i64 4))),p 65 (.Za 66)])
 (.cond 65 (.seq (.Zd [p 67 (.Za 5),p 68 (.Zj 2 1),r 69 (.load none 68),w 70 (.call (.k (.fn 180 [] [])) [(.k (.int .u8 134)),67,(.k (.int .i64 1)),69]),p 2 (.Za 70),p
 3 (.Za (.k (.int .i64 0)))]) .ret) (.seq (.Zd [p 72 (.bin .eql 15 (.k (.int .i64 3))),p 71 (.Za 72)]) (.cond 71 (.seq (.Zd [p 73 (.Za 5),p 74 (.Zj 2 1),r 75 (.load none 74),
 w 76 (.call (.k (.fn 180 [] [])) [(.k (.int .u8 135)),73,(.k (.int .i64 1)),75]),p 2 (.Za 76),p 3 (.Za (.k (.int .i64 0)))]) .ret) (.seq (.Zd [p 78 (.bin .eql 15 (.k (.int .i64
 5))),p 77 (.Za 78)]) (.cond 77 (.seq (.Zd [p 79 (.Za 5),p 80 (.Zj 2 1),r 81 (.load none 80),w 82 (.call (.k (.fn 180 [] [])) [(.k (.int .u8 136)),79,(.k (.int .i64 1)),
 81]),p 2 (.Za 82),p 3 (.Za (.k (.int .i64 0)))]) .ret) .skip)))))))))))))) (.seq (.Zi [1]) (.seq (.Zd [r 83 (.load (some 3) 1),w 84 (.call (.k (.fn 128 [] [])) [83]),p 85 (.Zt
 0 84),p 86 (.Zt 1 84),p 2 (.Za 85),p 3 (.Za 86)]) .ret)))))))⟩
def N4:Z8:=⟨2,[.t 4],(.seq (.Zd [p 4 (.Za (.k (.bool false)))]) (.seq (.Zd [p 9 (.Za 0),w 10 (.call (.k (.fn 162 [] [])) [9]),p 8 (.Za 10),p 11 (.Zt
 0 8),p 12 (.Zt 1 8),p 13 (.Zt 2 8),p 5 (.Za 11),p 6 (.Za 12),p 7 (.Za 13)]) (.seq (.Zi [0,1,5,6,7]) (.seq (.Zd [p 14 (.Za 7),p 15 (.bin .eql 14 (.k (.int .i64 0))),
 p 16 (.Za 15),pg 17 16 true (.Za 6),pg 18 16 true (.Za 0),pg 19 16 true (.lenOf true 18),pg 20 16 true (.bin .eql 17 19),p 21 (.pick 16 20 (.k (.bool false))),p 22 (.Za 21),
 pg 23 22 true (.Za 5),pg 24 22 true (.Za 1),wg 25 22 true (.call (.k (.fn 164 [] [])) [23,24]),p 26 (.pick 22 25 (.k (.bool false))),p 4 (.Za 26)]) .ret))))⟩
def Yg:Z8:=⟨2,[.t 4,.t 5],(.seq (.Zd [p 4 (.Za (.k (.int .i64 0))),p 5 (.Za (.k .Y6))]) (.seq (.Zd [p 6 (.Za 0),w 7 (.call (.k (.fn 109
 [] [])) [6])]) (.seq (.Zd [p 8 (.Za 0),p 9 (.Za 0),p 10 (.Z6 9),p 11 (.Zj 1 10),r 12 (.load none 11),p 13 (.Za 1),w 14 (.append 5 1 1 [(.int .u8 0)] 12 13),p 15 (.Z6
 8),p 16 (.Zj 1 15),w0 (.store 1 16 14)]) (.seq (.Zi [1]) (.seq (.Zd [p 17 (.Za 1),p 18 (.lenOf true 17),p 4 (.Za 18),p 5 (.Za (.k .Y6))]) .ret)))))⟩
def Nz:Z8:=⟨3,[.t 6],(.seq (.Zd [p 6 (.Za (.k (.bool false)))]) (.seq (.Zd [p 11 (.Za 0),w 12 (.call (.k (.fn 162 [] [])) [11]),p 10 (.Za 12),p 13 (.Zt
 0 10),p 14 (.Zt 1 10),p 15 (.Zt 2 10),p 7 (.Za 13),p 8 (.Za 14),p 9 (.Za 15)]) (.seq (.Zi [1,2,7,8,9]) (.seq (.Zd [p 16 (.Za 9),p 17 (.Za 2),p 18 (.bin .eql 16
 17),p 19 (.Za 18),pg 20 19 true (.Za 8),pg 21 19 true (.Za 1),pg 22 19 true (.bin .eql 20 21),p 23 (.pick 19 22 (.k (.bool false))),p 24 (.Za 23),pg 25 24 true (.Za 7),
 pg 26 24 true (.lenOf false 25),pg 27 24 true (.bin .eql 26 (.k (.int .i64 0))),p 28 (.pick 24 27 (.k (.bool false))),p 6 (.Za 28)]) .ret))))⟩
def Ge:Z8:=⟨1,[.cell 2 (some 3)],(.seq (.Zd [n 2 (.alloc 134 true [(.int .i64 0),(.int .i64 0),(.str [])])]) (.seq (.Zd [p 3 (.Za 0),p 4 (.build [(.int .i64
 0),(.int .i64 0),(.str [])] [(0,1,(.k (.int .i64 6))),(2,1,3)]),w0 (.store 3 2 4)]) .ret))⟩
def Gc:Z8:=⟨1,[.cell 2 (some 3)],(.seq (.Zd [n 2 (.alloc 134 true [(.int .i64 0),(.int .i64 0),(.str [])])]) (.seq (.Zd [p 3 (.Za 0),p 4 (.build [(.int .i64
 0),(.int .i64 0),(.str [])] [(0,1,(.k (.int .i64 3))),(2,1,3)]),w0 (.store 3 2 4)]) .ret))⟩
def M5:Z8:=⟨1,[.cell 2 (some 3)],(.seq (.Zd [n 2 (.alloc 134 true [(.int .i64 0),(.int .i64 0),(.str [])])]) (.seq (.Zd [p 3 (.Za 0),p 4 (.build [(.int
 .i64 0),(.int .i64 0),(.str [])] [(0,1,(.k (.int .i64 1))),(1,1,3)]),w0 (.store 3 2 4)]) .ret))⟩
def Rv:Zx:=(.seq (.Zi [0]) (.block 1 (.seq (.Y7 [.op 0 (p 2 (.Za 0)),.op 1 (p 3 (.Z6 2)),.op 2 (p 4 (.Zj 0 3)),.op 3 (p 5 (.Zj 1 4)),.op 4
 (r 6 (.load none 5)),.op 5 (p 7 (.Za 0)),.op 6 (p 8 (.Z6 7)),.op 7 (p 9 (.Zj 0 8)),.op 8 (p 10 (.Zj 0 9)),.op 9 (r 11 (.load none 10)),.op 10 (p 12 (.Za 0)),.op 11
 (p 13 (.Z6 12)),.op 12 (p 14 (.Zj 0 13)),.op 13 (p 15 (.Zj 1 14)),.op 14 (r 16 (.load none 15)),.op 15 (p 17 (.Lg 11 (some 16) none)),.op 16 (w 18 (.call (.k (.fn 182
 [] [])) [17,(.k (.fn 183 [] []))])),.re 4,.op 17 (p 19 (.bin .add 6 18)),.op 18 (p 20 (.Z6 2)),.op 19 (p 21 (.Zj 0 20)),.op 20 (p 22 (.Zj 1 21)),.op 21 (w0 (.store 1
 22 19))]) (.seq (.Zi [0]) (.seq (.seq (.Y7 [.op 0 (p 23 (.Za 0)),.op 1 (p 24 (.Z6 23)),.op 2 (p 25 (.Zj 0 24)),.op 3 (p 26 (.Zj 1 25)),.op 4 (r 27 (.load none 26)),
 .op 5 (p 28 (.Za 0)),.op 6 (p 29 (.Z6 28)),.op 7 (p 30 (.Zj 0 29)),.op 8 (p 31 (.Zj 0 30)),.op 9 (r 32 (.load none 31)),.op 10 (p 33 (.lenOf true 32)),.op 11 (p 34 (.bin
 .eql 27 33)),.op 12 (p 35 (.Za 34)),.op 13 (pg 36 35 false (.Za 0)),.op 14 (pg 37 35 false (.Z6 36)),.op 15 (pg 38 35 false (.Zj 0 37)),.op 16 (pg 39 35 false (.Zj 0
 38)),.op 17 (rg 40 35 false (.load none 39)),.op 18 (pg 41 35 false (.Za 0)),.op 19 (pg 42 35 false (.Z6 41)),.op 20 (pg 43 35 false (.Zj 0 42)),.op 21 (pg 44 35 false (.Zj
 1 43)),.op 22 (rg 45 35 false (.load none 44)),.op 23 (pg 46 35 false (.Q4 40 45)),.op 24 (pg 47 35 false (.bin .neq 46 (.k (.int .u8 37)))),.op 25 (p 48 (.pick 35 (.k (.bool
 true)) 47))]) (.cond 48 .ret .skip)) (.seq (.Zi [0]) (.Y7 [.op 0 (p 49 (.Za 0)),.op 1 (p 50 (.Z6 49)),.op 2 (p 51 (.Zj 0 50)),.op 3 (p 52 (.Zj 1 51)),.op 4 (r 53 (.load
 none 52)),.op 5 (p 54 (.Za 0)),.op 6 (p 55 (.Z6 54)),.op 7 (p 56 (.Zj 0 55)),.op 8 (p 57 (.Zj 0 56)),.op 9 (r 58 (.load none 57)),.op 10 (p 59 (.Za 0)),.op 11 (p 60
 (.Z6 59)),.op 12 (p 61 (.Zj 0 60)),.op 13 (p 62 (.Zj 1 61)),.op 14 (r 63 (.load none 62)),.op 15 (p 64 (.Lg 58 (some 63) none)),.op 16 (w 65 (.call (.k (.fn 182 [] []))
 [64,(.k (.fn 184 [] []))])),.re 4,.op 17 (p 66 (.bin .add 53 65)),.op 18 (p 67 (.Z6 49)),.op 19 (p 68 (.Zj 0 67)),.op 20 (p 69 (.Zj 1 68)),.op 21 (w0 (.store 1 69 66))])))))))
def U2:Z8:=⟨1,[],(.block 0 (.loop Rv))⟩
def V4:Z8:=⟨1,[.cell 2 (some 3),.t 3,.t 4],(.seq (.Zd [n 2 (.alloc 134 true [(.int .i64 0),(.int .i64 0),(.str [])]),p 3 (.Za (.k (.int .i64 0))),p 4
 (.Za (.k (.int .i64 0)))]) (.seq (.Y7 [.op 0 (p 11 (.Za 0)),.op 1 (p 12 (.Z6 11)),.op 2 (p 13 (.Zj 0 12)),.op 3 (p 14 (.Zj 0 13)),.op 4 (r 15 (.load none 14)),.op
 5 (p 16 (.Za 0)),.op 6 (p 17 (.Z6 16)),.op 7 (p 18 (.Zj 0 17)),.op 8 (p 19 (.Zj 1 18)),.op 9 (r 20 (.load none 19)),.op 10 (p 21 (.Q4 15 20)),.op 11 (p 5 (.Za 21))])
 (.seq (.Zi [0,2,5]) (.seq (.seq (.Zd [w 23 (.call (.k (.fn 185 [] [])) []),p 24 (.Za 5),r 25 (.lookup (.i .u8) .Lb true 23 24),p 22 (.Za 25),p 26 (.Zt 0 22),p 27 (.Zt
 1 22),p 6 (.Za 26),p 7 (.Za 27)]) (.seq (.Zi [0,2,5,6,7]) (.seq (.Zd [p 28 (.Za 7)]) (.cond 28 (.seq (.Zd [p 29 (.Za 6),p 30 (.Za 0),w 31 (.call 29 [30]),p 32 (.Zt
 0 31),p 33 (.Zt 1 31),p 34 (.Zt 2 31),w0 (.store 3 2 32),p 3 (.Za 33),p 4 (.Za 34)]) .ret) .skip)))) (.seq (.Zi [0,2,5]) (.seq (.seq (.Zd [p 35 (.Za 5),p 36 (.bin
 .geq 35 (.k (.int .u8 128))),p 37 (.Za 36),pg 38 37 true (.Za 5),pg 39 37 true (.bin .lss 38 (.k (.int .u8 160))),p 40 (.pick 37 39 (.k (.bool false)))]) (.cond 40 (.seq (.Zd
 [p 41 (.Za 0),w 42 (.call (.k (.fn 186 [] [])) [41]),p 43 (.Zt 0 42),p 44 (.Zt 1 42),p 45 (.Zt 2 42),w0 (.store 3 2 43),p 3 (.Za 44),p 4 (.Za 45)]) .ret) .skip)) (.seq
 (.Zi [0,2]) (.seq (.Y7 [.op 0 (p 46 (.Za 0)),.op 1 (p 47 (.Z6 46)),.op 2 (p 48 (.Zj 0 47)),.op 3 (p 49 (.Zj 0 48)),.op 4 (r 50 (.load none 49)),.op 5 (p 51 (.Za
 0)),.op 6 (p 52 (.Z6 51)),.op 7 (p 53 (.Zj 0 52)),.op 8 (p 54 (.Zj 1 53)),.op 9 (r 55 (.load none 54)),.op 10 (p 56 (.Lg 50 (some 55) none)),.op 11 (w 57 (.call (.k
 (.fn 182 [] [])) [56,(.k (.fn 67 [] []))])),.op 12 (p 8 (.Za 57))]) (.seq (.Zi [0,2,8]) (.seq (.Y7 [.op 0 (p 59 (.Za 0)),.op 1 (p 60 (.Z6 59)),.op 2 (p 61 (.Zj 0 60)),
 .op 3 (p 62 (.Zj 0 61)),.op 4 (r 63 (.load none 62)),.op 5 (p 64 (.Za 0)),.op 6 (p 65 (.Z6 64)),.op 7 (p 66 (.Zj 0 65)),.op 8 (p 67 (.Zj 1 66)),.op 9 (r 68 (.load
 none 67)),.op 10 (p 69 (.Za 0)),.op 11 (p 70 (.Z6 69)),.op 12 (p 71 (.Zj 0 70)),.op 13 (p 72 (.Zj 1 71)),.op 14 (r 73 (.load none 72)),.op 15 (p 74 (.Za 8)),.op 16
 (p 75 (.bin .add 73 74)),.op 17 (p 76 (.Lg 63 (some 68) (some 75))),.op 18 (w 77 (.call (.k (.fn 65 [] [])) [76])),.op 19 (p 58 (.Za 77)),.op 20 (p 78 (.Zt 0 58)),.op 22 (n
 9 (.alloc 134 true [(.int .i64 0),(.int .i64 0),(.str [])])),.op 23 (w0 (.store 3 9 78)),.op 21 (p 79 (.Zt 1 58)),.op 24 (p 10 (.Za 79))]) (.seq (.Zi [2,8,9,10]) (.seq
 (.seq (.Zd [p 80 (.Za 10),p 81 (.bin .neq 80 (.k (.int .i64 0)))]) (.cond 81 (.seq (.Zd [p 82 (.build [(.int .i64 0),(.int .i64 0),(.str [])] []),p 83 (.Za 10),w0 (.store 3
 2 82),p 3 (.Za (.k (.int .i64 0))),p 4 (.Za 83)]) .ret) .skip)) (.seq (.Zd [r 84 (.load (some 3) 9),p 85 (.Za 8),w0 (.store 3 2 84),p 3 (.Za 85),p 4 (.Za (.k (.int .i64
 0)))]) .ret)))))))))))))⟩
def J8:Zx:=(.seq (.Zi [0,1,5]) (.seq (.seq (.Zd [p 6 (.Za 1),p 7 (.Za 0),p 8 (.lenOf true 7),p 9 (.bin .lss 6 8)]) (.cond 9 .skip (.exit 0))) (.block
 1 (.seq (.block 2 (.seq (.Zd [p 12 (.Za 5),p 13 (.Za 12),pg 14 13 true (.Za 0),pg 15 13 true (.Za 1),pg 16 13 true (.Q4 14 15),pg 17 13 true (.bin .eql 16 (.k (.int .u8
 10))),pg 18 13 true (.Za 17),pg 19 18 false (.Za 0),pg 20 18 false (.Za 1),pg 21 18 false (.Q4 19 20),pg 22 18 false (.bin .eql 21 (.k (.int .u8 13))),pg 23 13 true (.pick
 18 (.k (.bool true)) 22),p 24 (.pick 13 23 (.k (.bool false))),p 11 (.Za 24)]) (.seq (.Zi [0,1,5,11]) (.cond 11 (.Zd [p 5 (.Za (.k (.bool false)))]) (.seq (.Zd [p 26 (.Za
 5),p 27 (.Za 26),pg 28 27 false (.Za 0),pg 29 27 false (.Za 1),pg 30 27 false (.Q4 28 29),wg 31 27 false (.call (.k (.fn 85 [] [])) [30]),p 32 (.pick 27 (.k (.bool true))
 31),p 25 (.Za 32)]) (.seq (.Zi [0,1,5,25]) (.cond 25 .skip (.seq (.Zd [p 34 (.Za 0),p 35 (.Za 1),p 36 (.Q4 34 35),p 37 (.bin .eql 36 (.k (.int .u8 37))),p 33 (.Za 37)])
 (.cond 33 (.Zd [p 5 (.Za (.k (.bool true)))]) (.seq (.Zd [p 10 (.Za 1),p 4 (.Za 10)]) .ret)))))))))) (.seq (.Zi [0,1,5]) (.Zd [p 38 (.Za 1),p 39 (.bin .add 38 (.k (.int
 .i64 1))),p 1 (.Za 39)]))))))
def Wr:Z8:=⟨2,[.t 4],(.seq (.Zd [p 4 (.Za (.k (.int .i64 0)))]) (.seq (.Zd [p 5 (.Za (.k (.bool false)))]) (.seq (.block 0 (.loop J8)) (.seq
 (.Zi [1]) (.seq (.Zd [p 40 (.Za 1),p 4 (.Za 40)]) .ret)))))⟩
def Zv:Z8:=⟨2,[.cell 4 (some 3),.t 5,.t 6],(.seq (.Zd [n 4 (.alloc 134 true [(.int .i64 0),(.int .i64 0),(.str [])]),p 5 (.Za (.k (.int .i64 0))),p 6 (.Za
 (.k (.int .i64 0)))]) (.seq (.Zd [p 7 (.Za (.k (.int .u8 0)))]) (.seq (.seq (.Zd [p 20 (.Za 1),p 21 (.bin .add 20 (.k (.int .i64 1))),p 22 (.Za 0),p 23 (.lenOf true 22),p 24
 (.bin .lss 21 23)]) (.cond 24 (.Zd [p 25 (.Za 0),p 26 (.Za 1),p 27 (.bin .add 26 (.k (.int .i64 1))),p 28 (.Q4 25 27),p 7 (.Za 28)]) .skip)) (.seq (.Zi [0,1,4,7]) (.seq
 (.seq (.Zd [p 29 (.Za 0),p 30 (.Za 1),p 31 (.Q4 29 30),p 8 (.Za 31)]) (.block 0 (.seq (.Zd [p 33 (.Za 8),p 34 (.bin .eql 33 (.k (.int .u8 40))),p 32 (.Za 34)]) (.cond
 32 (.seq (.Zd [p 36 (.Za 0),p 37 (.Za 1),p 38 (.Lg 36 (some 37) none),w 39 (.call (.k (.fn 70 [] [])) [38]),p 35 (.Za 39),p 40 (.Zt 0 35),p 41 (.Zt 1 35),p 42 (.Zt
 2 35),p 9 (.Za 40),p 10 (.Za 41),p 11 (.Za 42)]) (.seq (.Zi [1,4,9,10,11]) (.seq (.seq (.Zd [p 43 (.Za 11),p 44 (.bin .eql 43 (.k (.int .i64 5)))]) (.cond 44 (.Zd [p
 11 (.Za (.k (.int .i64 37)))]) .skip)) (.seq (.seq (.Zd [p 45 (.Za 11),p 46 (.bin .neq 45 (.k (.int .i64 0)))]) (.cond 46 (.seq (.Zd [p 47 (.build [(.int .i64 0),(.int .i64 0),
 (.str [])] []),p 48 (.Za 11),w0 (.store 3 4 47),p 5 (.Za (.k (.int .i64 0))),p 6 (.Za 48)]) .ret) .skip)) (.seq (.Zd [p 49 (.Za 9),p 50 (.Za 1),p 51 (.Za 10),p 52 (.bin
 .add 50 51),w 53 (.call (.k (.fn 187 [] [])) [(.k (.int .i64 6)),49,52]),p 54 (.Zt 0 53),p 55 (.Zt 1 53),p 56 (.Zt 2 53),w0 (.store 3 4 54),p 5 (.Za 55),p 6 (.Za 56)])
 .ret))))) (.seq (.Zd [p 58 (.Za 8),p 59 (.bin .eql 58 (.k (.int .u8 123))),p 57 (.Za 59)]) (.cond 57 (.seq (.Zd [p 60 (.build [(.int .i64 0),(.int .i64 0),(.str [])] [(0,1,
 (.k (.int .i64 7)))]),p 61 (.Za 1),p 62 (.bin .add 61 (.k (.int .i64 1))),w0 (.store 3 4 60),p 5 (.Za 62),p 6 (.Za (.k (.int .i64 0)))]) .ret) (.seq (.Zd [p 64 (.Za 8),p
 65 (.bin .eql 64 (.k (.int .u8 125))),p 63 (.Za 65)]) (.cond 63 (.seq (.Zd [p 66 (.build [(.int .i64 0),(.int .i64 0),(.str [])] [(0,1,(.k (.int .i64 8)))]),p 67 (.Za 1),p
 68 (.bin .add 67 (.k (.int .i64 1))),w0 (.store 3 4 66),p 5 (.Za 68),p 6 (.Za (.k (.int .i64 0)))]) .ret) (.seq (.Zd [p 70 (.Za 8),p 71 (.bin .eql 70 (.k (.int .u8 91))),p
 72 (.Za 71),pg 73 72 false (.Za 8),pg 74 72 false (.bin .eql 73 (.k (.int .u8 93))),p 75 (.pick 72 (.k (.bool true)) 74),p 69 (.Za 75)]) (.cond 69 (.seq (.Zd [p 76 (.Za 0),
 p 77 (.Za 1),p 78 (.Za 1),p 79 (.bin .add 78 (.k (.int .i64 1))),p 80 (.Lg 76 (some 77) (some 79)),p 81 (.Za 1),p 82 (.bin .add 81 (.k (.int .i64 1))),w 83 (.call (.k (.fn
 187 [] [])) [(.k (.int .i64 3)),80,82]),p 84 (.Zt 0 83),p 85 (.Zt 1 83),p 86 (.Zt 2 83),w0 (.store 3 4 84),p 5 (.Za 85),p 6 (.Za 86)]) .ret) (.seq (.Zd [p 88 (.Za
 8),p 89 (.bin .eql 88 (.k (.int .u8 60))),p 90 (.Za 89),pg 91 90 true (.Za 7),pg 92 90 true (.bin .eql 91 (.k (.int .u8 60))),p 93 (.pick 90 92 (.k (.bool false))),p 94 (.Za
 93),pg 95 94 false (.Za 8),pg 96 94 false (.bin .eql 95 (.k (.int .u8 62))),pg 97 94 false (.Za 96),pg 98 97 true (.Za 7),pg 99 97 true (.bin .eql 98 (.k (.int .u8 62))),pg
 100 94 false (.pick 97 99 (.k (.bool false))),p 101 (.pick 94 (.k (.bool true)) 100),p 87 (.Za 101)]) (.seq (.Zi [0,1,4,7,8,87]) (.cond 87 (.seq (.Zd [p 102 (.Za 0),p 103
 (.Za 1),p 104 (.Za 1),p 105 (.bin .add 104 (.k (.int .i64 2))),p 106 (.Lg 102 (some 103) (some 105)),p 107 (.Za 1),p 108 (.bin .add 107 (.k (.int .i64 2))),w 109 (.call (.k
 (.fn 187 [] [])) [(.k (.int .i64 3)),106,108]),p 110 (.Zt 0 109),p 111 (.Zt 1 109),p 112 (.Zt 2 109),w0 (.store 3 4 110),p 5 (.Za 111),p 6 (.Za 112)]) .ret) (.seq (.Zd
 [p 114 (.Za 8),p 115 (.bin .eql 114 (.k (.int .u8 60))),p 116 (.Za 115),pg 117 116 true (.Za 7),pg 118 116 true (.bin .eql 117 (.k (.int .u8 126))),p 119 (.pick 116 118 (.k
 (.bool false))),p 113 (.Za 119)]) (.cond 113 (.seq (.Zd [p 121 (.Za 0),p 122 (.Za 1),p 123 (.bin .add 122 (.k (.int .i64 2))),p 124 (.Lg 121 (some 123) none),w 125 (.call
 (.k (.fn 188 [] [])) [124]),p 120 (.Za 125),p 126 (.Zt 0 120),p 127 (.Zt 1 120),p 128 (.Zt 2 120),p 12 (.Za 126),p 13 (.Za 127),p 14 (.Za 128)]) (.seq (.Zi [1,4,
 12,13,14]) (.seq (.seq (.Zd [p 129 (.Za 14),p 130 (.bin .eql 129 (.k (.int .i64 3)))]) (.cond 130 (.seq (.Zd [p 131 (.build [(.int .i64 0),(.int .i64 0),(.str [])] []),w0 (.store
 3 4 131),p 5 (.Za (.k (.int .i64 0))),p 6 (.Za (.k (.int .i64 26)))]) .ret) .skip)) (.seq (.seq (.Zd [p 132 (.Za 14),p 133 (.bin .neq 132 (.k (.int .i64 0)))]) (.cond 133 (.seq
 (.Zd [p 134 (.build [(.int .i64 0),(.int .i64 0),(.str [])] []),w0 (.store 3 4 134),p 5 (.Za (.k (.int .i64 0))),p 6 (.Za (.k (.int .i64 37)))]) .ret) .skip)) (.seq (.Zd [p
 135 (.Za 12),p 136 (.Za 1),p 137 (.bin .add 136 (.k (.int .i64 2))),p 138 (.Za 13),p 139 (.bin .add 137 138),w 140 (.call (.k (.fn 187 [] [])) [(.k (.int .i64 6)),135,139]),
 p 141 (.Zt 0 140),p 142 (.Zt 1 140),p 143 (.Zt 2 140),w0 (.store 3 4 141),p 5 (.Za 142),p 6 (.Za 143)]) .ret))))) (.seq (.Zd [p 145 (.Za 8),p 146 (.bin .eql 145 (.k
 (.int .u8 60))),p 144 (.Za 146)]) (.cond 144 (.seq (.Zd [p 148 (.Za 0),p 149 (.Za 1),p 150 (.bin .add 149 (.k (.int .i64 1))),p 151 (.Lg 148 (some 150) none),w 152 (.call
 (.k (.fn 189 [] [])) [151]),p 147 (.Za 152),p 153 (.Zt 0 147),p 154 (.Zt 1 147),p 155 (.Zt 2 147),p 15 (.Za 153),p 16 (.Za 154),p 17 (.Za 155)]) (.seq (.Zi [1,4,
 15,16,17]) (.seq (.seq (.Zd [p 156 (.Za 17),p 157 (.bin .neq 156 (.k (.int .i64 0)))]) (.cond 157 (.seq (.Zd [p 158 (.build [(.int .i64 0),(.int .i64 0),(.str [])] []),w0 (.store
 3 4 158),p 5 (.Za (.k (.int .i64 0))),p 6 (.Za (.k (.int .i64 37)))]) .ret) .skip)) (.seq (.Zd [p 159 (.Za 15),p 160 (.Za 1),p 161 (.bin .add 160 (.k (.int .i64 1))),p 162
 (.Za 16),p 163 (.bin .add 161 162),w 164 (.call (.k (.fn 187 [] [])) [(.k (.int .i64 6)),159,163]),p 165 (.Zt 0 164),p 166 (.Zt 1 164),p 167 (.Zt 2 164),w0 (.store 3
 4 165),p 5 (.Za 166),p 6 (.Za 167)]) .ret)))) (.seq (.Zd [p 169 (.Za 8),p 170 (.bin .eql 169 (.k (.int .u8 47))),p 171 (.Za 170),pg 172 171 true (.Za 7),pg 173 171 true
 (.bin .eql 172 (.k (.int .u8 47))),p 174 (.pick 171 173 (.k (.bool false))),p 168 (.Za 174)]) (.cond 168 (.seq (.Y7 [.op 3 (p 178 (.Za 0)),.op 4 (p 179 (.Za 1)),.op 5 (p 180
 (.bin .add 179 (.k (.int .i64 2)))),.op 6 (w 181 (.call (.k (.fn 190 [] [])) [178,180])),.op 8 (p 183 (.Za 0)),.op 9 (p 184 (.Za 1)),.op 10 (p 185 (.bin .add 184 (.k (.int .i64
 2)))),.op 11 (w 186 (.call (.k (.fn 190 [] [])) [183,185])),.op 0 (p 175 (.Za 0)),.op 1 (p 176 (.Za 1)),.op 2 (p 177 (.bin .add 176 (.k (.int .i64 2)))),.op 7 (p 182 (.Lg
 175 (some 177) (some 181))),.op 12 (w 187 (.call (.k (.fn 187 [] [])) [(.k (.int .i64 5)),182,186])),.op 13 (p 188 (.Zt 0 187)),.op 14 (p 189 (.Zt 1 187)),.op 15 (p 190 (.Zt
 2 187)),.op 16 (w0 (.store 3 4 188)),.op 17 (p 5 (.Za 189)),.op 18 (p 6 (.Za 190))]) .ret) (.seq (.Zd [p 192 (.Za 8),p 193 (.bin .eql 192 (.k (.int .u8 47))),p 191 (.Za 193)])
 (.cond 191 (.seq (.Y7 [.op 3 (p 197 (.Za 0)),.op 4 (p 198 (.Za 1)),.op 5 (p 199 (.bin .add 198 (.k (.int .i64 1)))),.op 6 (w 200 (.call (.k (.fn 190 [] [])) [197,199])),.op
 8 (p 202 (.Za 0)),.op 9 (p 203 (.Za 1)),.op 10 (p 204 (.bin .add 203 (.k (.int .i64 1)))),.op 11 (w 205 (.call (.k (.fn 190 [] [])) [202,204])),.op 0 (p 194 (.Za 0)),.op 1
 (p 195 (.Za 1)),.op 2 (p 196 (.bin .add 195 (.k (.int .i64 1)))),.op 7 (p 201 (.Lg 194 (some 196) (some 200))),.op 12 (w 206 (.call (.k (.fn 187 [] [])) [(.k (.int .i64 4)),201,
 205])),.op 13 (p 207 (.Zt 0 206)),.op 14 (p 208 (.Zt 1 206)),.op 15 (p 209 (.Zt 2 206)),.op 16 (w0 (.store 3 4 207)),.op 17 (p 5 (.Za 208)),.op 18 (p 6 (.Za 209))]) .ret)
 (.seq (.Zd [p 211 (.Za 8),p 212 (.bin .eql 211 (.k (.int .u8 62))),p 213 (.Za 212),pg 214 213 false (.Za 8),pg 215 213 false (.bin .eql 214 (.k (.int .u8 41))),p 216 (.pick
 213 (.k (.bool true)) 215),p 210 (.Za 216)]) (.cond 210 (.seq (.Zd [p 217 (.build [(.int .i64 0),(.int .i64 0),(.str [])] []),w0 (.store 3 4 217),p 5 (.Za (.k (.int .i64 0))),
 p 6 (.Za (.k (.int .i64 37)))]) .ret) (.seq (.Zd [p 219 (.Za 8),p 220 (.bin .geq 219 (.k (.int .u8 128))),p 221 (.Za 220),pg 222 221 true (.Za 8),pg 223 221 true (.bin .leq
 222 (.k (.int .u8 159))),p 224 (.pick 221 223 (.k (.bool false))),p 218 (.Za 224)]) (.cond 218 (.seq (.Zd [p 225 (.Za 0),p 226 (.Za 1),w 227 (.call (.k (.fn 191 [] [])) [225,
 226]),p 228 (.Zt 0 227),p 229 (.Zt 1 227),p 230 (.Zt 2 227),w0 (.store 3 4 228),p 5 (.Za 229),p 6 (.Za 230)]) .ret) .skip))))))))))))))))))))))))) (.seq (.Zi [0,1,
 4]) (.seq (.Zd [p 232 (.Za 0),p 233 (.Za 1),p 234 (.Za 0),p 235 (.Za 1),w 236 (.call (.k (.fn 190 [] [])) [234,235]),p 237 (.Lg 232 (some 233) (some 236)),w 238 (.call
 (.k (.fn 66 [] [])) [237]),p 231 (.Za 238),p 239 (.Zt 0 231),p 240 (.Zt 1 231),n 18 (.alloc 134 true [(.int .i64 0),(.int .i64 0),(.str [])]),w0 (.store 3 18 239),p 19
 (.Za 240)]) (.seq (.Zi [0,1,4,18,19]) (.seq (.seq (.Zd [p 241 (.Za 19),p 242 (.bin .neq 241 (.k (.int .i64 0)))]) (.cond 242 (.seq (.Zd [p 243 (.build [(.int .i64 0),(.int
 .i64 0),(.str [])] []),p 244 (.Za 19),w0 (.store 3 4 243),p 5 (.Za (.k (.int .i64 0))),p 6 (.Za 244)]) .ret) .skip)) (.seq (.Y7 [.op 0 (r 245 (.load (some 3) 18)),.op 1 (p
 246 (.Za 0)),.op 2 (p 247 (.Za 1)),.op 3 (w 248 (.call (.k (.fn 190 [] [])) [246,247])),.re 0,.op 4 (w0 (.store 3 4 245)),.op 5 (p 5 (.Za 248)),.op 6 (p 6 (.Za (.k (.int
 .i64 0))))]) .ret))))))))))⟩
def Nr:Z8:=⟨1,[.t 2],(.seq (.Zd [n 1 (.box 9 false 0),p 2 (.Za (.k .Lb))]) (.seq (.Zd [p 3 (.Zbu 192 [] [1]),p 2 (.Za 3)]) .ret))⟩
def Zo6:Zx:=(.seq (.Zi [1,3,9,10]) (.seq (.seq (.Zd [p 15 (.Za 10),p 16 (.bin .geq 15 (.k (.int .i64 0)))]) (.cond 16 .skip (.exit 0))) (.seq (.block 1 (.Zd
 [p 19 (.Za 1),p 20 (.Za 10),p 21 (.bin .mul (.k (.int .i64 8)) 20),p 22 (.bin .shr 19 21),p 23 (.conv .u8 22),w 24 (.call (.k (.fn 91 [] [])) [9,23])])) (.Zd [p 17 (.Za 10),
 p 18 (.bin .sub 17 (.k (.int .i64 1))),p 10 (.Za 18)]))))
def Zat:Z8:=⟨4,[.t 8],(.seq (.Zd [p 8 (.Za (.k (.str [])))]) (.seq (.Zd [n 9 (.alloc 84 false [.Wa,.Zk])]) (.seq (.Zd [p 11 (.Za 0),w 12 (.call (.k (.fn
 91 [] [])) [9,11])]) (.seq (.seq (.Zd [p 13 (.Za 2),p 14 (.bin .sub 13 (.k (.int .i64 1))),p 10 (.Za 14)]) (.block 0 (.loop Zo6))) (.seq (.Zi [3,9]) (.seq (.Zd [p
 25 (.Za 3),w 26 (.call (.k (.fn 169 [] [])) [9,25])]) (.seq (.Zd [w 27 (.call (.k (.fn 92 [] [])) [9]),p 8 (.Za 27)]) .ret)))))))⟩
def Mc:Zx:=(.seq (.Zi [0,1,5]) (.seq (.seq (.Zd [p 6 (.Za 5),p 7 (.Za 0),p 8 (.lenOf true 7),p 9 (.bin .lss 6 8),p 10 (.Za 9),pg 11 10 true (.Za
 1),pg 12 10 true (.Za 0),pg 13 10 true (.Za 5),pg 14 10 true (.Q4 12 13),wg 15 10 true (.call 11 [14]),p 16 (.pick 10 15 (.k (.bool false)))]) (.cond 16 .skip (.exit 0))) (.seq
 (.Zi [0,1,5]) (.block 1 (.Zd [p 17 (.Za 5),p 18 (.bin .add 17 (.k (.int .i64 1))),p 5 (.Za 18)])))))
def Jt:Z8:=⟨2,[.t 4],(.seq (.Zd [p 4 (.Za (.k (.int .i64 0)))]) (.seq (.Zd [p 5 (.Za (.k (.int .i64 0)))]) (.seq (.block 0 (.loop Mc)) (.seq
 (.Zi [5]) (.seq (.Zd [p 19 (.Za 5),p 4 (.Za 19)]) .ret)))))⟩
def Eh:Z8:=⟨1,[.t 2],(.seq (.Zd [p 2 (.Za (.k (.bool false)))]) (.seq (.Zd [p 3 (.Za 0),w 4 (.call (.k (.fn 84 [] [])) [(.k (.str [0,9,10,12,13,32])),3]),
 p 5 (.bin .geq 4 (.k (.int .i64 0))),p 2 (.Za 5)]) .ret))⟩
def Vh:Z8:=⟨1,[.t 2],(.seq (.Zd [p 2 (.Za (.k (.bool false)))]) (.seq (.Zd [p 3 (.Za 0),p 4 (.bin .neq 3 (.k (.int .u8 10))),p 5 (.Za 4),pg 6 5 true
 (.Za 0),pg 7 5 true (.bin .neq 6 (.k (.int .u8 13))),p 8 (.pick 5 7 (.k (.bool false))),p 2 (.Za 8)]) .ret))⟩
def Mb:Z8:=⟨0,[.t 0],(.seq (.Zd [p 0 (.Za (.k .Xk))]) (.seq (.Zd [n 1 (.mkMap),w0 (.F9 (.i .u8) 1 (.k (.int .u8 40)) (.k (.fn 193 [] []))),w0 (.F9 (.i
 .u8) 1 (.k (.int .u8 41)) (.k (.fn 194 [] []))),w0 (.F9 (.i .u8) 1 (.k (.int .u8 123)) (.k (.fn 195 [] []))),w0 (.F9 (.i .u8) 1 (.k (.int .u8 125)) (.k (.fn 195 [] []))),w0 (.F9
 (.i .u8) 1 (.k (.int .u8 91)) (.k (.fn 196 [] []))),w0 (.F9 (.i .u8) 1 (.k (.int .u8 93)) (.k (.fn 196 [] []))),w0 (.F9 (.i .u8) 1 (.k (.int .u8 60)) (.k (.fn 197 [] []))),w0
 (.F9 (.i .u8) 1 (.k (.int .u8 62)) (.k (.fn 198 [] []))),w0 (.F9 (.i .u8) 1 (.k (.int .u8 47)) (.k (.fn 199 [] []))),p 2 (.Za 1),p 0 (.Za 2)]) .ret))⟩
def Vf:Z8:=⟨1,[.cell 2 (some 3),.t 3,.t 4],(.seq (.Zd [n 2 (.alloc 134 true [(.int .i64 0),(.int .i64 0),(.str [])]),p 3 (.Za (.k (.int .i64 0))),p 4
 (.Za (.k (.int .i64 0)))]) (.seq (.seq (.Y7 [.op 0 (p 5 (.Za 0)),.op 1 (p 6 (.Z6 5)),.op 2 (p 7 (.Zj 0 6)),.op 3 (p 8 (.Zj 0 7)),.op 4 (r 9 (.load none 8)),.op 5 (p
 10 (.Za 0)),.op 6 (p 11 (.Z6 10)),.op 7 (p 12 (.Zj 0 11)),.op 8 (p 13 (.Zj 1 12)),.op 9 (r 14 (.load none 13)),.op 10 (p 15 (.Q4 9 14))]) (.seq (.Zi [0,2,15]) (.block
 0 (.seq (.Zd [p 17 (.bin .eql 15 (.k (.int .u8 128))),p 16 (.Za 17)]) (.cond 16 (.seq (.Zd [p 18 (.Za 0),w 19 (.call (.k (.fn 200 [] [])) [18,(.k (.int .i64 1)),(.k (.int .i64
 4))]),p 20 (.Zt 0 19),p 21 (.Zt 1 19),p 22 (.Zt 2 19),w0 (.store 3 2 20),p 3 (.Za 21),p 4 (.Za 22)]) .ret) (.seq (.Zd [p 24 (.bin .eql 15 (.k (.int .u8 129))),p 23 (.Za
 24)]) (.cond 23 (.seq (.Zd [p 25 (.Za 0),w 26 (.call (.k (.fn 200 [] [])) [25,(.k (.int .i64 1)),(.k (.int .i64 1))]),p 27 (.Zt 0 26),p 28 (.Zt 1 26),p 29 (.Zt 2 26),
 w0 (.store 3 2 27),p 3 (.Za 28),p 4 (.Za 29)]) .ret) (.seq (.Zd [p 31 (.bin .eql 15 (.k (.int .u8 130))),p 30 (.Za 31)]) (.cond 30 (.seq (.Zd [p 32 (.Za 0),w 33 (.call (.k
 (.fn 200 [] [])) [32,(.k (.int .i64 1)),(.k (.int .i64 2))]),p 34 (.Zt 0 33),p 35 (.Zt 1 33),p 36 (.Zt 2 33),w0 (.store 3 2 34),p 3 (.Za 35),p 4 (.Za 36)]) .ret) (.seq
 (.Zd [p 38 (.bin .eql 15 (.k (.int .u8 131))),p 37 (.Za 38)]) (.cond 37 (.seq (.Zd [p 39 (.Za 0),w 40 (.call (.k (.fn 200 [] [])) [39,(.k (.int .i64 2)),(.k (.int .i64 4))]),
 p 41 (.Zt 0 40),p 42 (.Zt 1 40),p 43 (.Zt 2 40),w0 (.store 3 2 41),p 3 (.Za 42),p 4 (.Za 43)]) .ret) (.seq (.Zd [p 45 (.bin .eql 15 (.k (.int .u8 132))),p 44 (.Za 45)])
 (.cond 44 (.seq (.Zd [p 46 (.Za 0),w 47 (.call (.k (.fn 201 [] [])) [46,(.k (.int .i64 6)),(.k (.int .i64 1))]),p 48 (.Zt 0 47),p 49 (.Zt 1 47),p 50 (.Zt 2 47),w0 (.store
 3 2 48),p 3 (.Za 49),p 4 (.Za 50)]) .ret) (.seq (.Zd [p 52 (.bin .eql 15 (.k (.int .u8 133))),p 51 (.Za 52)]) (.cond 51 (.seq (.Zd [p 53 (.Za 0),w 54 (.call (.k (.fn 201 []
 [])) [53,(.k (.int .i64 6)),(.k (.int .i64 2))]),p 55 (.Zt 0 54),p 56 (.Zt 1 54),p 57 (.Zt 2 54),w0 (.store 3 2 55),p 3 (.Za 56),p 4 (.Za 57)]) .ret) (.seq (.Zd [p
 59 (.bin .eql 15 (.k (.int .u8 134))),p 58 (.Za 59)]) (.cond 58 (.seq (.Zd [p 60 (.Za 0),w 61 (.call (.k (.fn 201 [] [])) [60,(.k (.int .i64 4)),(.k (.int .i64 1))]),p 62 (.Zt
 0 61),p 63 (.Zt 1 61),p 64 (.Zt 2 61),w0 (.store 3 2 62),p 3 (.Za 63),p 4 (.Za 64)]) .ret) (.seq (.Zd [p 66 (.bin .eql 15 (.k (.int .u8 135))),p 65 (.Za 66)]) (.cond 65
 (.seq (.Zd [p 67 (.Za 0),w 68 (.call (.k (.fn 201 [] [])) [67,(.k (.int .i64 3)),(.k (.int .i64 1))]),p 69 (.Zt 0 68),p 70 (.Zt 1 68),p 71 (.Zt 2 68),w0 (.store 3 2 69),
 p 3 (.Za 70),p 4 (.Za 71)]) .ret) (.seq (.Zd [p 73 (.bin .eql 15 (.k (.int .u8 136))),p 72 (.Za 73)]) (.cond 72 (.seq (.Zd [p 74 (.Za 0),w 75 (.call (.k (.fn 201 [] [])) [74,
 (.k (.int .i64 5)),(.k (.int .i64 1))]),p 76 (.Zt 0 75),p 77 (.Zt 1 75),p 78 (.Zt 2 75),w0 (.store 3 2 76),p 3 (.Za 77),p 4 (.Za 78)]) .ret) .skip)))))))))))))))))))))
 (.seq (.Zi [0,2]) (.seq (.Zd [p 79 (.Za 0),w 80 (.call (.k (.fn 194 [] [])) [79]),p 81 (.Zt 0 80),p 82 (.Zt 1 80),p 83 (.Zt 2 80),w0 (.store 3 2 81),p 3 (.Za 82),
 p 4 (.Za 83)]) .ret))))⟩
def Qn:Z8:=⟨3,[.cell 6 (some 3),.t 7,.t 8],(.seq (.Zd [n 6 (.alloc 134 true [(.int .i64 0),(.int .i64 0),(.str [])]),p 7 (.Za (.k (.int .i64 0))),p 8 (.Za
 (.k (.int .i64 0)))]) (.seq (.Zd [p 11 (.Za 0),p 12 (.Za 1),p 13 (.build [(.int .i64 0),(.int .i64 0),(.str [])] [(0,1,11),(2,1,12)]),n 9 (.alloc 134 true [(.int .i64 0),
 (.int .i64 0),(.str [])]),w0 (.store 3 9 13)]) (.seq (.Zd [p 10 (.Za (.k (.int .i64 100)))]) (.seq (.seq (.Zd [p 14 (.Za 0),p 15 (.bin .eql 14 (.k (.int .i64 6)))]) (.cond 15
 (.Zd [p 10 (.Za (.k (.int .i64 1000)))]) .skip)) (.seq (.seq (.Zd [p 16 (.Za 1),p 17 (.lenOf true 16),p 18 (.Za 10),p 19 (.bin .gtr 17 18)]) (.cond 19 (.seq (.Zd [p 20 (.build
 [(.int .i64 0),(.int .i64 0),(.str [])] []),w0 (.store 3 6 20),p 7 (.Za (.k (.int .i64 0))),p 8 (.Za (.k (.int .i64 26)))]) .ret) .skip)) (.seq (.Zi [2,6,9]) (.seq (.seq
 (.Zd [r 21 (.load (some 3) 9),w 22 (.call (.k (.fn 129 [] [])) [21]),p 23 (.un .not 22)]) (.cond 23 (.seq (.Zd [p 24 (.build [(.int .i64 0),(.int .i64 0),(.str [])] []),w0 (.store
 3 6 24),p 7 (.Za (.k (.int .i64 0))),p 8 (.Za (.k (.int .i64 37)))]) .ret) .skip)) (.seq (.Zd [r 25 (.load (some 3) 9),p 26 (.Za 2),w0 (.store 3 6 25),p 7 (.Za 26),p 8 (.Za
 (.k (.int .i64 0)))]) .ret))))))))⟩
def Yn:Zx:=(.seq (.Zi [0,5,6,7]) (.seq (.seq (.Zd [p 13 (.Za 7),p 14 (.Za 0),p 15 (.lenOf true 14),p 16 (.bin .lss 13 15)]) (.cond 16 .skip (.exit
 0))) (.seq (.block 1 (.seq (.Zd [p 19 (.Za 0),p 20 (.Za 7),p 21 (.Q4 19 20),p 8 (.Za 21)]) (.block 2 (.seq (.Zd [p 38 (.Za 8),w 39 (.call (.k (.fn 85 [] [])) [38]),p 37
 (.Za 39)]) (.cond 37 .skip (.seq (.Zd [p 41 (.Za 8),p 42 (.bin .eql 41 (.k (.int .u8 126))),p 40 (.Za 42)]) (.cond 40 (.seq (.Zd [p 43 (.Za 0),p 44 (.Za 7),p 45 (.bin .add
 44 (.k (.int .i64 1))),w 46 (.call (.k (.fn 202 [] [])) [43,45]),p 9 (.Za 46)]) (.seq (.seq (.Zd [p 47 (.Za 9),p 48 (.bin .lss 47 (.k (.int .i64 0))),p 49 (.Za 48),pg 50 49
 false (.Za 6),pg 51 49 false (.lenOf false 50),pg 52 49 false (.bin .eql 51 (.k (.int .i64 1))),p 53 (.pick 49 (.k (.bool true)) 52),p 54 (.Za 53),pg 55 54 false (.Za 6),pg
 56 54 false (.lenOf false 55),pg 57 54 false (.bin .gtr 56 (.k (.int .i64 1))),pg 58 54 false (.Za 57),pg 59 58 true (.Za 6),wg 60 58 true (.call (.k (.fn 203 [] [])) [59]),pg
 61 58 true (.bin .geq 60 (.k (.int .i64 4294967296))),pg 62 54 false (.pick 58 61 (.k (.bool false))),p 63 (.pick 54 (.k (.bool true)) 62)]) (.seq (.Zi [5,6,9,63]) (.cond 63
 (.seq (.Zd [p 2 (.Za (.k (.str []))),p 3 (.Za (.k (.int .i64 0))),p 4 (.Za (.k (.int .i64 5)))]) .ret) .skip))) (.seq (.Zi [5,6,9]) (.seq (.seq (.Zd [p 64 (.Za 6),p 65
 (.lenOf false 64),p 66 (.bin .gtr 65 (.k (.int .i64 1)))]) (.cond 66 (.Zd [p 67 (.Za 5),p 68 (.Za 6),w 69 (.call (.k (.fn 203 [] [])) [68]),w 70 (.call (.k (.fn 204 [] [])) [69]),
 p 71 (.Za 6),p 72 (.lenOf false 71),p 73 (.bin .sub 72 (.k (.int .i64 1))),p 74 (.Zyl 1 70 none (some 73) none),w 75 (.append 5 1 1 [(.int .u8 0)] 67 74),p 5 (.Za 75)]) .skip))
 (.seq (.Zi [5,9]) (.seq (.Zd [p 76 (.Za 5),p 77 (.Za 9),w 78 (.call (.k (.fn 205 [] [])) [76,77]),p 79 (.Zt 0 78),p 80 (.Zt 1 78),p 81 (.Zt 2 78),p 2 (.Za 79),p
 3 (.Za 80),p 4 (.Za 81)]) .ret)))))) (.seq (.Zd [p 83 (.Za 8),p 84 (.bin .eql 83 (.k (.int .u8 122))),p 85 (.Za 84),pg 86 85 true (.Za 6),pg 87 85 true (.lenOf false 86),
 pg 88 85 true (.bin .eql 87 (.k (.int .i64 0))),p 89 (.pick 85 88 (.k (.bool false))),p 82 (.Za 89)]) (.seq (.Zi [0,5,6,7,8,82]) (.cond 82 (.Zd [p 90 (.Za 5),n 91 (.Qo
 5 4 [(.int .u8 0),(.int .u8 0),(.int .u8 0),(.int .u8 0)] [(0,1,(.k (.int .u8 0))),(1,1,(.k (.int .u8 0))),(2,1,(.k (.int .u8 0))),(3,1,(.k (.int .u8 0)))]),w 92 (.append
 5 1 1 [(.int .u8 0)] 90 91),p 5 (.Za 92)]) (.seq (.Zd [p 94 (.Za 8),p 95 (.bin .lss 94 (.k (.int .u8 33))),p 96 (.Za 95),pg 97 96 false (.Za 8),pg 98 96 false (.bin .gtr 97
 (.k (.int .u8 117))),p 99 (.pick 96 (.k (.bool true)) 98),p 93 (.Za 99)]) (.cond 93 (.seq (.Zd [p 2 (.Za (.k (.str []))),p 3 (.Za (.k (.int .i64 0))),p 4 (.Za (.k (.int .i64
 5)))]) .ret) (.seq (.Zd [p 22 (.Za 6),p 23 (.Za 8),n 24 (.Qo 5 1 [(.int .u8 0)] [(0,1,23)]),w 25 (.append 5 1 1 [(.int .u8 0)] 22 24),p 6 (.Za 25)]) (.seq (.seq (.Zd
 [p 26 (.Za 6),p 27 (.lenOf false 26),p 28 (.bin .lss 27 (.k (.int .i64 5)))]) (.cond 28 (.exit 1) .skip)) (.seq (.seq (.Zd [p 29 (.Za 6),w 30 (.call (.k (.fn 203 [] [])) [29]),
 p 31 (.bin .geq 30 (.k (.int .i64 4294967296)))]) (.cond 31 (.seq (.Zd [p 2 (.Za (.k (.str []))),p 3 (.Za (.k (.int .i64 0))),p 4 (.Za (.k (.int .i64 5)))]) .ret) .skip)) (.seq
 (.Zd [p 32 (.Za 5),p 33 (.Za 6),w 34 (.call (.k (.fn 203 [] [])) [33]),w 35 (.call (.k (.fn 204 [] [])) [34]),w 36 (.append 5 1 1 [(.int .u8 0)] 32 35),p 5 (.Za 36)]) (.Zd
 [p 6 (.Za (.k .Zk))]))))))))))))))))) (.seq (.Zi [0,5,6,7]) (.Zd [p 17 (.Za 7),p 18 (.bin .add 17 (.k (.int .i64 1))),p 7 (.Za 18)])))))
def Kn:Z8:=⟨1,[.t 2,.t 3,.t 4],(.seq (.Zd [p 2 (.Za (.k (.str []))),p 3 (.Za (.k (.int .i64 0))),p 4 (.Za (.k (.int .i64 0)))]) (.seq (.seq (.Zd [p
 10 (.Za 0),p 11 (.lenOf true 10),p 12 (.bin .gtr 11 (.k (.int .i64 65536)))]) (.cond 12 (.seq (.Zd [p 2 (.Za (.k (.str []))),p 3 (.Za (.k (.int .i64 0))),p 4 (.Za (.k (.int
 .i64 3)))]) .ret) .skip)) (.seq (.Zd [p 5 (.Za (.k .Zk)),p 6 (.Za (.k .Zk))]) (.seq (.seq (.Zd [p 7 (.Za (.k (.int .i64 0)))]) (.block 0 (.loop Yn)))
 (.seq (.Zi []) (.seq (.Zd [p 2 (.Za (.k (.str []))),p 3 (.Za (.k (.int .i64 0))),p 4 (.Za (.k (.int .i64 5)))]) .ret))))))⟩
def Ko:Zx:=(.seq (.Zi [5,6,7,8]) (.seq (.seq (.Zd [p 29 (.Za 8),p 30 (.Za 5),p 31 (.lenOf false 30),p 32 (.bin .lss 29 31)]) (.cond 32 .skip (.exit
 2))) (.seq (.block 3 (.Y7 [.op 1 (p 36 (.Za 5)),.op 2 (p 37 (.Za 8)),.op 3 (p 38 (.Vn 1 36 37)),.op 4 (r 39 (.load none 38)),.op 6 (p 41 (.Za 5)),.op 7 (p 42 (.Za 8)),
 .op 8 (p 43 (.bin .add 42 (.k (.int .i64 1)))),.op 9 (p 44 (.Vn 1 41 43)),.op 10 (r 45 (.load none 44)),.op 0 (p 35 (.Za 7)),.op 5 (p 40 (.bin .mul (.k (.int .i64 16)) 39)),
 .op 11 (p 46 (.bin .add 40 45)),.op 12 (p 47 (.conv .u8 46)),.op 13 (n 48 (.Qo 5 1 [(.int .u8 0)] [(0,1,47)])),.op 14 (w 49 (.append 5 1 1 [(.int .u8 0)] 35 48)),.op 15 (p
 7 (.Za 49))])) (.seq (.Zi [5,6,7,8]) (.Zd [p 33 (.Za 8),p 34 (.bin .add 33 (.k (.int .i64 2))),p 8 (.Za 34)])))))
def Kp:Zx:=(.seq (.Zi [0,5,6]) (.seq (.seq (.Zd [p 12 (.Za 6),p 13 (.Za 0),p 14 (.lenOf true 13),p 15 (.bin .lss 12 14)]) (.cond 15 .skip (.exit 0)))
 (.seq (.block 1 (.seq (.seq (.Zd [p 18 (.Za 0),p 19 (.Za 6),p 20 (.Q4 18 19),p 21 (.bin .eql 20 (.k (.int .u8 62)))]) (.cond 21 (.seq (.seq (.Zd [p 22 (.Za 5),p 23 (.lenOf
 false 22),p 24 (.bin .rem 23 (.k (.int .i64 2))),p 25 (.bin .eql 24 (.k (.int .i64 1)))]) (.cond 25 (.Zd [p 26 (.Za 5),n 27 (.Qo 3 1 [(.int .i64 0)] [(0,1,(.k (.int .i64
 0)))]),w 28 (.append 3 1 8 [(.int .i64 0)] 26 27),p 5 (.Za 28)]) .skip)) (.seq (.Zi [5,6]) (.seq (.Zd [p 7 (.Za (.k .Zk))]) (.seq (.seq (.Zd [p 8 (.Za (.k (.int .i64
 0)))]) (.block 2 (.loop Ko))) (.seq (.Zi [6,7]) (.seq (.Zd [p 50 (.Za 7),r 51 (.b2s 50),p 52 (.Za 6),p 53 (.bin .add 52 (.k (.int .i64 1))),p 2 (.Za 51),
 p 3 (.Za 53),p 4 (.Za (.k (.int .i64 0)))]) .ret)))))) .skip)) (.seq (.Zi [0,5,6]) (.seq (.seq (.Zd [p 54 (.Za 0),p 55 (.Za 6),p 56 (.Q4 54 55),w 57 (.call (.k (.fn 85
 [] [])) [56])]) (.cond 57 (.exit 1) .skip)) (.seq (.seq (.Zd [p 58 (.Za 0),p 59 (.Za 6),p 60 (.Q4 58 59),w 61 (.call (.k (.fn 206 [] [])) [60]),p 62 (.bin .lss 61 (.k (.int
 .i64 0)))]) (.cond 62 (.seq (.Zd [p 2 (.Za (.k (.str []))),p 3 (.Za (.k (.int .i64 0))),p 4 (.Za (.k (.int .i64 5)))]) .ret) .skip)) (.seq (.Zi [0,5,6]) (.Zd [p 63 (.Za
 5),p 64 (.Za 0),p 65 (.Za 6),p 66 (.Q4 64 65),w 67 (.call (.k (.fn 206 [] [])) [66]),n 68 (.Qo 3 1 [(.int .i64 0)] [(0,1,67)]),w 69 (.append 3 1 8 [(.int .i64 0)] 63
 68),p 5 (.Za 69)]))))))) (.seq (.Zi [0,5,6]) (.Zd [p 16 (.Za 6),p 17 (.bin .add 16 (.k (.int .i64 1))),p 6 (.Za 17)])))))
def Vb:Z8:=⟨1,[.t 2,.t 3,.t 4],(.seq (.Zd [p 2 (.Za (.k (.str []))),p 3 (.Za (.k (.int .i64 0))),p 4 (.Za (.k (.int .i64 0)))]) (.seq (.seq (.Zd [p 9
 (.Za 0),p 10 (.lenOf true 9),p 11 (.bin .gtr 10 (.k (.int .i64 65536)))]) (.cond 11 (.seq (.Zd [p 2 (.Za (.k (.str []))),p 3 (.Za (.k (.int .i64 0))),p 4 (.Za (.k (.int .i64
 3)))]) .ret) .skip)) (.seq (.Zd [p 5 (.Za (.k .Zk))]) (.seq (.seq (.Zd [p 6 (.Za (.k (.int .i64 0)))]) (.block 0 (.loop Kp))) (.seq (.Zi []) (.seq (.Zd
 [p 2 (.Za (.k (.str []))),p 3 (.Za (.k (.int .i64 0))),p 4 (.Za (.k (.int .i64 5)))]) .ret))))))⟩
def Xx:Zx:=(.seq (.Zi [0,1]) (.seq (.seq (.Zd [p 5 (.Za 1),p 6 (.Za 0),p 7 (.lenOf true 6),p 8 (.bin .lss 5 7),p 9 (.Za 8),pg 10 9 true (.Za 0),
 pg 11 9 true (.Za 1),pg 12 9 true (.Q4 10 11),wg 13 9 true (.call (.k (.fn 68 [] [])) [12]),p 14 (.pick 9 13 (.k (.bool false)))]) (.cond 14 .skip (.exit 0))) (.seq (.Zi [0,
 1]) (.block 1 (.Zd [p 15 (.Za 1),p 16 (.bin .add 15 (.k (.int .i64 1))),p 1 (.Za 16)])))))
def Ve:Z8:=⟨2,[.t 4],(.seq (.Zd [p 4 (.Za (.k (.int .i64 0)))]) (.seq (.block 0 (.loop Xx)) (.seq (.Zi [1]) (.seq (.Zd [p 17 (.Za 1),p
 4 (.Za 17)]) .ret))))⟩
def Vw:Z8:=⟨2,[.cell 4 (some 3),.t 5,.t 6],(.seq (.Zd [n 4 (.alloc 134 true [(.int .i64 0),(.int .i64 0),(.str [])]),p 5 (.Za (.k (.int .i64 0))),p 6
 (.Za (.k (.int .i64 0)))]) (.seq (.Zd [p 13 (.build (List.replicate 9 (.int .i64 0)) [(0,1,(.k (.int .i64 1))),(1,1,(.k (.int .i64 1))),(2,1,(.k (.int .i64 1))),(3,1,(.k
 (.int .i64 2))),(4,1,(.k (.int .i64 6))),(5,1,(.k (.int .i64 6))),(6,1,(.k (.int .i64 4))),(7,1,(.k (.int .i64 3))),(8,1,(.k (.int .i64 5)))]),n 7 (.alloc 297 true (List.replicate
 9 (.int .i64 0))),w0 (.store 9 7 13)]) (.seq (.Zd [p 14 (.build (List.replicate 9 (.int .i64 0)) [(0,1,(.k (.int .i64 4))),(1,1,(.k (.int .i64 1))),(2,1,(.k (.int .i64 2))),
 (3,1,(.k (.int .i64 4))),(4,1,(.k (.int .i64 1))),(5,1,(.k (.int .i64 2))),(6,1,(.k (.int .i64 1))),(7,1,(.k (.int .i64 1))),(8,1,(.k (.int .i64 1)))]),n 8 (.alloc
 297 true (List.replicate 9 (.int .i64 0))),w0 (.store 9 8 14)]) (.seq (.Zd [p 15 (.Za 0),p 16 (.Za 1),p 17 (.Q4 15 16),p 18 (.conv .i64 17),p 19 (.bin .sub 18 (.k (.int .i64
 128))),p 9 (.Za 19)]) (.seq (.seq (.Zd [p 20 (.Za 9),p 21 (.bin .gtr 20 (.k (.int .i64 8))),p 22 (.Za 21),pg 23 22 false (.Za 0),pg 24 22 false (.lenOf true 23),pg 25 22
 false (.Za 1),pg 26 22 false (.bin .sub 24 25),pg 27 22 false (.bin .sub 26 (.k (.int .i64 1))),pg 28 22 false (.Za 9),pg 29 22 false (.Be 9 1 8 28),rg 30 22 false (.load
 none 29),pg 31 22 false (.bin .lss 27 30),p 32 (.pick 22 (.k (.bool true)) 31)]) (.seq (.Zi [0,1,4,7,8,9,32]) (.cond 32 (.seq (.Zd [p 33 (.build [(.int .i64 0),(.int .i64
 0),(.str [])] []),w0 (.store 3 4 33),p 5 (.Za (.k (.int .i64 0))),p 6 (.Za (.k (.int .i64 37)))]) .ret) .skip))) (.seq (.Zi [0,1,4,7,8,9]) (.seq (.Zd [p 34 (.Za 0),p
 35 (.Za 1),p 36 (.bin .add 35 (.k (.int .i64 1))),p 37 (.Za 1),p 38 (.bin .add 37 (.k (.int .i64 1))),p 39 (.Za 9),p 40 (.Be 9 1 8 39),r 41 (.load none 40),p 42 (.bin
 .add 38 41),p 43 (.Lg 34 (some 36) (some 42)),p 10 (.Za 43)]) (.seq (.Zi [0,1,4,7,8,9,10]) (.seq (.Zd [p 44 (.Za 1),p 45 (.bin .add 44 (.k (.int .i64 1))),p 46 (.Za
 9),p 47 (.Be 9 1 8 46),r 48 (.load none 47),p 49 (.bin .add 45 48),p 11 (.Za 49)]) (.seq (.seq (.Zd [p 50 (.Za 9),p 51 (.bin .lss 50 (.k (.int .i64 4)))]) (.cond 51 (.seq
 (.Y7 [.op 0 (p 52 (.Za 9)),.op 1 (p 53 (.Be 9 1 7 52)),.op 2 (r 54 (.load none 53)),.op 3 (p 55 (.Za 10)),.op 4 (w 56 (.call (.k (.fn 207 [] [])) [55])),.re 2,.op 5 (p
 57 (.build [(.int .i64 0),(.int .i64 0),(.str [])] [(0,1,54),(1,1,56)])),.op 7 (w0 (.store 3 4 57)),.op 6 (p 58 (.Za 11)),.op 8 (p 5 (.Za 58)),.op 9 (p 6 (.Za (.k (.int
 .i64 0))))]) .ret) .skip)) (.seq (.Zi [0,4,7,9,10,11]) (.seq (.Zd [p 59 (.Za 10),w 60 (.call (.k (.fn 208 [] [])) [59]),p 12 (.Za 60)]) (.seq (.seq (.Zd [p 61 (.Za 0),
 p 62 (.lenOf true 61),p 63 (.Za 11),p 64 (.bin .sub 62 63),p 65 (.Za 12),p 66 (.bin .lss 64 65)]) (.cond 66 (.seq (.Zd [p 67 (.build [(.int .i64 0),(.int .i64 0),(.str [])]
 []),w0 (.store 3 4 67),p 5 (.Za (.k (.int .i64 0))),p 6 (.Za (.k (.int .i64 37)))]) .ret) .skip)) (.seq (.Zi [0,4,7,9,11,12]) (.seq (.Y7 [.op 0 (p 68 (.Za 9)),.op 1
 (p 69 (.Be 9 1 7 68)),.op 2 (r 70 (.load none 69)),.op 3 (p 71 (.Za 0)),.op 4 (p 72 (.Za 11)),.op 5 (p 73 (.Za 11)),.op 6 (p 74 (.Za 12)),.op 7 (p 75 (.bin .add 73 74)),
 .op 8 (p 76 (.Lg 71 (some 72) (some 75))),.op 9 (p 77 (.Za 11)),.op 10 (p 78 (.Za 12)),.op 11 (p 79 (.bin .add 77 78)),.op 12 (w 80 (.call (.k (.fn 187 [] [])) [70,76,79])),
 .op 13 (p 81 (.Zt 0 80)),.op 14 (p 82 (.Zt 1 80)),.op 15 (p 83 (.Zt 2 80)),.op 16 (w0 (.store 3 4 81)),.op 17 (p 5 (.Za 82)),.op 18 (p 6 (.Za 83))]) .ret)))))))))))))))⟩
def Ei:Zx:=(.seq (.Zi [0,1,3]) (.block 1 (.seq (.Zd [r 8 (.load none 1),p 9 (.Za 3),w 10 (.call (.k (.fn 158 [] [])) [8,9]),p 7 (.Za 10),p 11 (.Zt
 0 7),p 12 (.Zt 1 7),p 13 (.Zt 2 7),n 4 (.alloc 134 true [(.int .i64 0),(.int .i64 0),(.str [])]),w0 (.store 3 4 11),p 5 (.Za 12),p 6 (.Za 13)]) (.seq (.Zi [0,1,4,
 5,6]) (.seq (.seq (.Zd [p 14 (.Za 0),r 15 (.load (some 3) 4),p 16 (.Za 5),p 17 (.Za 6),p 18 (.build [(.int .i64 0),(.int .i64 0),(.str []),(.int .i64 0),(.int .i64 0)]
 [(0,3,15),(3,1,16),(4,1,17)]),w 19 (.call 14 [18]),p 20 (.un .not 19),p 21 (.Za 20),pg 22 21 false (.Za 6),pg 23 21 false (.bin .neq 22 (.k (.int .i64 0))),p 24 (.pick
 21 (.k (.bool true)) 23)]) (.cond 24 .ret .skip)) (.seq (.Zi [0,1,5]) (.Zd [p 25 (.Za 5),p 3 (.Za 25)])))))))
def Mn:Z8:=⟨2,[],(.seq (.Zd [p 3 (.Za (.k (.int .i64 0)))]) (.block 0 (.loop Ei)))⟩
def Vg:Z8:=⟨1,[.cell 2 (some 3),.t 3,.t 4],(.seq (.Zd [n 2 (.alloc 134 true [(.int .i64 0),(.int .i64 0),(.str [])]),p 3 (.Za (.k (.int .i64 0))),p 4
 (.Za (.k (.int .i64 0)))]) (.seq (.Y7 [.op 0 (p 9 (.Za 0)),.op 1 (p 10 (.Z6 9)),.op 2 (p 11 (.Zj 0 10)),.op 3 (p 12 (.Zj 0 11)),.op 4 (r 13 (.load none 12)),.op 5
 (p 14 (.Za 0)),.op 6 (p 15 (.Z6 14)),.op 7 (p 16 (.Zj 0 15)),.op 8 (p 17 (.Zj 1 16)),.op 9 (r 18 (.load none 17)),.op 10 (p 19 (.Lg 13 (some 18) none)),.op 11 (w 20
 (.call (.k (.fn 69 [] [])) [19])),.op 12 (p 8 (.Za 20)),.op 13 (p 21 (.Zt 0 8)),.op 14 (p 22 (.Zt 1 8)),.op 15 (p 23 (.Zt 2 8)),.op 16 (p 5 (.Za 21)),.op 17 (p 6 (.Za
 22)),.op 18 (p 7 (.Za 23))]) (.seq (.Zi [2,5,6,7]) (.seq (.seq (.Zd [p 24 (.Za 7)]) (.block 0 (.seq (.Zd [p 26 (.bin .eql 24 (.k (.int .i64 0))),p 25 (.Za 26)]) (.cond 25
 (.seq (.Zd [p 27 (.Za 5),p 28 (.Za 6),w 29 (.call (.k (.fn 209 [] [])) [(.k (.int .i64 6)),27,28]),p 30 (.Zt 0 29),p 31 (.Zt 1 29),p 32 (.Zt 2 29),w0 (.store 3 2 30),
 p 3 (.Za 31),p 4 (.Za 32)]) .ret) (.seq (.Zd [p 34 (.bin .eql 24 (.k (.int .i64 26))),p 33 (.Za 34)]) (.cond 33 (.seq (.Zd [p 35 (.build [(.int .i64 0),(.int .i64 0),(.str
 [])] []),p 36 (.Za 7),w0 (.store 3 2 35),p 3 (.Za (.k (.int .i64 0))),p 4 (.Za 36)]) .ret) .skip)))))) (.seq (.Zi [2]) (.seq (.Zd [p 37 (.build [(.int .i64 0),(.int .i64
 0),(.str [])] []),w0 (.store 3 2 37),p 3 (.Za (.k (.int .i64 0))),p 4 (.Za (.k (.int .i64 37)))]) .ret))))))⟩
def Q1:Z8:=⟨1,[.cell 2 (some 3),.t 3,.t 4],(.seq (.Zd [n 2 (.alloc 134 true [(.int .i64 0),(.int .i64 0),(.str [])]),p 3 (.Za (.k (.int .i64 0))),p 4
 (.Za (.k (.int .i64 0)))]) (.seq (.Zd [p 5 (.build [(.int .i64 0),(.int .i64 0),(.str [])] []),w0 (.store 3 2 5),p 3 (.Za (.k (.int .i64 0))),p 4 (.Za (.k (.int .i64 37)))])
 .ret))⟩
def Kt:Z8:=⟨1,[.cell 2 (some 3),.t 3,.t 4],(.seq (.Zd [n 2 (.alloc 134 true [(.int .i64 0),(.int .i64 0),(.str [])]),p 3 (.Za (.k (.int .i64 0))),p 4
 (.Za (.k (.int .i64 0)))]) (.seq (.seq (.Y7 [.op 0 (p 5 (.Za 0)),.op 1 (p 6 (.Z6 5)),.op 2 (p 7 (.Zj 0 6)),.op 3 (p 8 (.Zj 0 7)),.op 4 (r 9 (.load none 8)),.op 5 (p
 10 (.Za 0)),.op 6 (p 11 (.Z6 10)),.op 7 (p 12 (.Zj 0 11)),.op 8 (p 13 (.Zj 1 12)),.op 9 (r 14 (.load none 13)),.op 10 (p 15 (.Q4 9 14)),.op 11 (p 16 (.bin .eql 15
 (.k (.int .u8 123))))]) (.seq (.Zi [2,16]) (.cond 16 (.seq (.Zd [p 17 (.build [(.int .i64 0),(.int .i64 0),(.str [])] [(0,1,(.k (.int .i64 7)))]),w0 (.store 3 2 17),p 3 (.Za
 (.k (.int .i64 1))),p 4 (.Za (.k (.int .i64 0)))]) .ret) .skip))) (.seq (.Zi [2]) (.seq (.Zd [p 18 (.build [(.int .i64 0),(.int .i64 0),(.str [])] [(0,1,(.k (.int .i64 8)))]),
 w0 (.store 3 2 18),p 3 (.Za (.k (.int .i64 1))),p 4 (.Za (.k (.int .i64 0)))]) .ret))))⟩
def Kq:Z8:=⟨1,[.cell 2 (some 3),.t 3,.t 4],(.seq (.Zd [n 2 (.alloc 134 true [(.int .i64 0),(.int .i64 0),(.str [])]),p 3 (.Za (.k (.int .i64 0))),p
 4 (.Za (.k (.int .i64 0)))]) (.seq (.Y7 [.op 0 (p 5 (.Za 0)),.op 1 (p 6 (.Z6 5)),.op 2 (p 7 (.Zj 0 6)),.op 3 (p 8 (.Zj 0 7)),.op 4 (r 9 (.load none 8)),.op 5 (p 10
 (.Za 0)),.op 6 (p 11 (.Z6 10)),.op 7 (p 12 (.Zj 0 11)),.op 8 (p 13 (.Zj 1 12)),.op 9 (r 14 (.load none 13)),.op 10 (p 15 (.Za 0)),.op 11 (p 16 (.Z6 15)),.op 12
 (p 17 (.Zj 0 16)),.op 13 (p 18 (.Zj 1 17)),.op 14 (r 19 (.load none 18)),.op 15 (p 20 (.bin .add 19 (.k (.int .i64 1)))),.op 16 (p 21 (.Lg 9 (some 14) (some 20))),.op 17
 (w 22 (.call (.k (.fn 209 [] [])) [(.k (.int .i64 3)),21,(.k (.int .i64 1))])),.op 18 (p 23 (.Zt 0 22)),.op 19 (p 24 (.Zt 1 22)),.op 20 (p 25 (.Zt 2 22)),.op 21 (w0 (.store
 3 2 23)),.op 22 (p 3 (.Za 24)),.op 23 (p 4 (.Za 25))]) .ret))⟩
def U1:Z8:=⟨1,[.cell 2 (some 3),.t 3,.t 4],(.seq (.Zd [n 2 (.alloc 134 true [(.int .i64 0),(.int .i64 0),(.str [])]),p 3 (.Za (.k (.int .i64 0))),p 4 (.Za
 (.k (.int .i64 0)))]) (.seq (.seq (.Zd [p 10 (.Za 0),w 11 (.call (.k (.fn 210 [] [])) [10,(.k (.int .u8 60))])]) (.cond 11 (.seq (.Zd [w 12 (.call (.k (.fn 209 [] [])) [(.k (.int
 .i64 3)),(.k (.str [60,60])),(.k (.int .i64 2))]),p 13 (.Zt 0 12),p 14 (.Zt 1 12),p 15 (.Zt 2 12),w0 (.store 3 2 13),p 3 (.Za 14),p 4 (.Za 15)]) .ret) .skip)) (.seq
 (.Zi [0,2]) (.seq (.Zd [p 5 (.Za (.k (.int .i64 1))),p 6 (.Za (.k (.fn 211 [] [])))]) (.seq (.seq (.Zd [p 16 (.Za 0),w 17 (.call (.k (.fn 210 [] [])) [16,(.k (.int .u8 126))])])
 (.cond 17 (.Zd [p 5 (.Za (.k (.int .i64 2))),p 6 (.Za (.k (.fn 212 [] [])))]) .skip)) (.seq (.Y7 [.op 1 (p 20 (.Za 0)),.op 2 (p 21 (.Z6 20)),.op 3 (p 22 (.Zj 0 21)),
 .op 4 (p 23 (.Zj 0 22)),.op 5 (r 24 (.load none 23)),.op 6 (p 25 (.Za 0)),.op 7 (p 26 (.Z6 25)),.op 8 (p 27 (.Zj 0 26)),.op 9 (p 28 (.Zj 1 27)),.op 10 (r 29 (.load
 none 28)),.op 0 (p 19 (.Za 6)),.op 11 (p 30 (.Za 5)),.op 12 (p 31 (.bin .add 29 30)),.op 13 (p 32 (.Lg 24 (some 31) none)),.op 14 (w 33 (.call 19 [32])),.op 15 (p 18 (.Za
 33)),.op 16 (p 34 (.Zt 0 18)),.op 17 (p 35 (.Zt 1 18)),.op 18 (p 36 (.Zt 2 18)),.op 19 (p 7 (.Za 34)),.op 20 (p 8 (.Za 35)),.op 21 (p 9 (.Za 36))]) (.seq (.Zi [2,5,
 7,8,9]) (.seq (.seq (.Zd [p 37 (.Za 9)]) (.block 0 (.seq (.Zd [p 39 (.bin .eql 37 (.k (.int .i64 0))),p 38 (.Za 39)]) (.cond 38 (.seq (.Zd [p 40 (.Za 7),p 41 (.Za 5),p 42
 (.Za 8),p 43 (.bin .add 41 42),w 44 (.call (.k (.fn 209 [] [])) [(.k (.int .i64 6)),40,43]),p 45 (.Zt 0 44),p 46 (.Zt 1 44),p 47 (.Zt 2 44),w0 (.store 3 2 45),p 3 (.Za
 46),p 4 (.Za 47)]) .ret) (.seq (.Zd [p 49 (.bin .eql 37 (.k (.int .i64 3))),p 48 (.Za 49)]) (.cond 48 (.seq (.Zd [p 50 (.build [(.int .i64 0),(.int .i64 0),(.str [])] []),w0
 (.store 3 2 50),p 3 (.Za (.k (.int .i64 0))),p 4 (.Za (.k (.int .i64 26)))]) .ret) .skip)))))) (.seq (.Zi [2]) (.seq (.Zd [p 51 (.build [(.int .i64 0),(.int .i64 0),(.str [])]
 []),w0 (.store 3 2 51),p 3 (.Za (.k (.int .i64 0))),p 4 (.Za (.k (.int .i64 37)))]) .ret))))))))))⟩
def Y0:Z8:=⟨1,[.cell 2 (some 3),.t 3,.t 4],(.seq (.Zd [n 2 (.alloc 134 true [(.int .i64 0),(.int .i64 0),(.str [])]),p 3 (.Za (.k (.int .i64 0))),p
 4 (.Za (.k (.int .i64 0)))]) (.seq (.seq (.Zd [p 5 (.Za 0),w 6 (.call (.k (.fn 210 [] [])) [5,(.k (.int .u8 62))])]) (.cond 6 (.seq (.Zd [w 7 (.call (.k (.fn 209 [] [])) [(.k
 (.int .i64 3)),(.k (.str [62,62])),(.k (.int .i64 2))]),p 8 (.Zt 0 7),p 9 (.Zt 1 7),p 10 (.Zt 2 7),w0 (.store 3 2 8),p 3 (.Za 9),p 4 (.Za 10)]) .ret) .skip)) (.seq
 (.Zi [2]) (.seq (.Zd [p 11 (.build [(.int .i64 0),(.int .i64 0),(.str [])] []),w0 (.store 3 2 11),p 3 (.Za (.k (.int .i64 0))),p 4 (.Za (.k (.int .i64 37)))]) .ret))))⟩
def V3:Z8:=⟨1,[.cell 2 (some 3),.t 3,.t 4],(.seq (.Zd [n 2 (.alloc 134 true [(.int .i64 0),(.int .i64 0),(.str [])]),p 3 (.Za (.k (.int .i64 0))),p 4
 (.Za (.k (.int .i64 0)))]) (.seq (.Zd [p 5 (.Za (.k (.int .i64 4))),p 6 (.Za (.k (.int .i64 1)))]) (.seq (.seq (.Zd [p 9 (.Za 0),w 10 (.call (.k (.fn 210 [] [])) [9,(.k (.int
 .u8 47))])]) (.cond 10 (.Zd [p 5 (.Za (.k (.int .i64 5))),p 6 (.Za (.k (.int .i64 2)))]) .skip)) (.seq (.Y7 [.op 0 (p 11 (.Za 0)),.op 1 (p 12 (.Z6 11)),.op 2 (p 13 (.Zj
 0 12)),.op 3 (p 14 (.Zj 0 13)),.op 4 (r 15 (.load none 14)),.op 5 (p 16 (.Za 0)),.op 6 (p 17 (.Z6 16)),.op 7 (p 18 (.Zj 0 17)),.op 8 (p 19 (.Zj 1 18)),.op 9 (r 20
 (.load none 19)),.op 10 (p 21 (.Za 6)),.op 11 (p 22 (.bin .add 20 21)),.op 12 (p 23 (.Lg 15 (some 22) none)),.op 13 (p 7 (.Za 23))]) (.seq (.Zi [2,5,6,7]) (.seq (.Zd [p
 24 (.Za 7),w 25 (.call (.k (.fn 182 [] [])) [24,(.k (.fn 67 [] []))]),p 8 (.Za 25)]) (.seq (.Zd [p 26 (.Za 5),p 27 (.Za 7),p 28 (.Za 8),p 29 (.Lg 27 none (some 28)),p
 30 (.Za 6),p 31 (.Za 8),p 32 (.bin .add 30 31),w 33 (.call (.k (.fn 209 [] [])) [26,29,32]),p 34 (.Zt 0 33),p 35 (.Zt 1 33),p 36 (.Zt 2 33),w0 (.store 3 2 34),p 3
 (.Za 35),p 4 (.Za 36)]) .ret)))))))⟩
def Yq:Z8:=⟨3,[.cell 6 (some 3),.t 7,.t 8],(.seq (.Zd [n 6 (.alloc 134 true [(.int .i64 0),(.int .i64 0),(.str [])]),p 7 (.Za (.k (.int .i64 0))),p 8
 (.Za (.k (.int .i64 0)))]) (.seq (.Y7 [.op 0 (p 10 (.Za 0)),.op 1 (p 11 (.Z6 10)),.op 2 (p 12 (.Zj 0 11)),.op 3 (p 13 (.Zj 0 12)),.op 4 (r 14 (.load none 13)),.op
 5 (p 15 (.Za 0)),.op 6 (p 16 (.Z6 15)),.op 7 (p 17 (.Zj 0 16)),.op 8 (p 18 (.Zj 1 17)),.op 9 (r 19 (.load none 18)),.op 10 (p 20 (.bin .add 19 (.k (.int .i64 1)))),.op
 11 (p 21 (.Lg 14 (some 20) none)),.op 12 (p 9 (.Za 21))]) (.seq (.Zi [0,1,2,6,9]) (.seq (.seq (.Zd [p 22 (.Za 9),p 23 (.lenOf true 22),p 24 (.Za 2),p 25 (.bin .lss 23
 24)]) (.cond 25 (.seq (.Zd [p 26 (.Za 0),w 27 (.call (.k (.fn 194 [] [])) [26]),p 28 (.Zt 0 27),p 29 (.Zt 1 27),p 30 (.Zt 2 27),w0 (.store 3 6 28),p 7 (.Za 29),p 8 (.Za
 30)]) .ret) .skip)) (.seq (.Zi [1,2,6,9]) (.seq (.Zd [p 31 (.Za 1),p 32 (.Za 9),p 33 (.Za 2),p 34 (.Lg 32 none (some 33)),w 35 (.call (.k (.fn 213 [] [])) [34]),p 36
 (.build [(.int .i64 0),(.int .i64 0),(.str [])] [(0,1,31),(1,1,35)]),p 37 (.Za 2),p 38 (.bin .add (.k (.int .i64 1)) 37),w0 (.store 3 6 36),p 7 (.Za 38),p 8 (.Za (.k
 (.int .i64 0)))]) .ret))))))⟩
def Uq:Zx:=(.seq (.Zi [0,1,2,6,9,10,33,34]) (.seq (.Zd [p 35 (.bin .lss 34 33)]) (.seq (.cond 35 .skip (.exit 0)) (.seq (.block 1 (.seq (.Zd [p
 36 (.Za 34),p 11 (.Za 36)]) (.Zd [p 37 (.Za 10),p 38 (.bin .shl 37 (.k (.int .u64 8))),p 39 (.Za 9),p 40 (.Za 11),p 41 (.Q4 39 40),p 42 (.conv .i64 41),p 43 (.bin .or
 38 42),p 10 (.Za 43)]))) (.seq (.Zi [0,1,2,6,9,10,33,34]) (.Zd [p 44 (.bin .add 34 (.k (.int .i64 1))),p 34 (.Za 44)]))))))
def Yz:Z8:=⟨3,[.cell 6 (some 3),.t 7,.t 8],(.seq (.Zd [n 6 (.alloc 134 true [(.int .i64 0),(.int .i64 0),(.str [])]),p 7 (.Za (.k (.int .i64 0))),p
 8 (.Za (.k (.int .i64 0)))]) (.seq (.Y7 [.op 0 (p 12 (.Za 0)),.op 1 (p 13 (.Z6 12)),.op 2 (p 14 (.Zj 0 13)),.op 3 (p 15 (.Zj 0 14)),.op 4 (r 16 (.load none 15)),.op
 5 (p 17 (.Za 0)),.op 6 (p 18 (.Z6 17)),.op 7 (p 19 (.Zj 0 18)),.op 8 (p 20 (.Zj 1 19)),.op 9 (r 21 (.load none 20)),.op 10 (p 22 (.bin .add 21 (.k (.int .i64 1)))),.op
 11 (p 23 (.Lg 16 (some 22) none)),.op 12 (p 9 (.Za 23))]) (.seq (.Zi [0,1,2,6,9]) (.seq (.seq (.Zd [p 24 (.Za 9),p 25 (.lenOf true 24),p 26 (.Za 2),p 27 (.bin .lss 25
 26)]) (.cond 27 (.seq (.Zd [p 28 (.Za 0),w 29 (.call (.k (.fn 194 [] [])) [28]),p 30 (.Zt 0 29),p 31 (.Zt 1 29),p 32 (.Zt 2 29),w0 (.store 3 6 30),p 7 (.Za 31),p 8 (.Za
 32)]) .ret) .skip)) (.seq (.Zi [0,1,2,6,9]) (.seq (.Zd [p 10 (.Za (.k (.int .i64 0)))]) (.seq (.seq (.Zd [p 33 (.Za 2),p 34 (.Za (.k (.int .i64 0)))]) (.block 0 (.loop Uq)))
 (.seq (.Zi [0,1,2,6,9,10]) (.seq (.Zd [p 45 (.Za 9),p 46 (.Za 2),p 47 (.Lg 45 (some 46) none),p 9 (.Za 47)]) (.seq (.seq (.Zd [p 48 (.Za 9),p 49 (.lenOf true 48),
 p 50 (.Za 10),p 51 (.bin .lss 49 50)]) (.cond 51 (.seq (.Zd [p 52 (.Za 0),w 53 (.call (.k (.fn 194 [] [])) [52]),p 54 (.Zt 0 53),p 55 (.Zt 1 53),p 56 (.Zt 2 53),w0 (.store
 3 6 54),p 7 (.Za 55),p 8 (.Za 56)]) .ret) .skip)) (.seq (.Zi [1,2,6,9,10]) (.seq (.Zd [p 57 (.Za 1),p 58 (.Za 9),p 59 (.Za 10),p 60 (.Lg 58 none (some 59)),p 61
 (.Za 2),p 62 (.bin .add (.k (.int .i64 1)) 61),p 63 (.Za 10),p 64 (.bin .add 62 63),w 65 (.call (.k (.fn 209 [] [])) [57,60,64]),p 66 (.Zt 0 65),p 67 (.Zt 1 65),p 68
 (.Zt 2 65),w0 (.store 3 6 66),p 7 (.Za 67),p 8 (.Za 68)]) .ret))))))))))))⟩
def L3:Zx:=(.seq (.Zi [0,1]) (.seq (.seq (.Zd [p 5 (.Za 1),p 6 (.Za 0),p 7 (.lenOf true 6),p 8 (.bin .lss 5 7),p 9 (.Za 8),pg 10 9 true (.Za 0),
 pg 11 9 true (.Za 1),pg 12 9 true (.Q4 10 11),wg 13 9 true (.call (.k (.fn 85 [] [])) [12]),p 14 (.pick 9 13 (.k (.bool false)))]) (.cond 14 .skip (.exit 0))) (.seq (.Zi [0,
 1]) (.block 1 (.Zd [p 15 (.Za 1),p 16 (.bin .add 15 (.k (.int .i64 1))),p 1 (.Za 16)])))))
def Wq:Z8:=⟨2,[.t 4],(.seq (.Zd [p 4 (.Za (.k (.int .i64 0)))]) (.seq (.block 0 (.loop L3)) (.seq (.Zi [0,1]) (.seq (.seq (.Zd [p 17 (.Za
 1),p 18 (.Za 0),p 19 (.lenOf true 18),p 20 (.bin .lss 17 19),p 21 (.Za 20),pg 22 21 true (.Za 0),pg 23 21 true (.Za 1),pg 24 21 true (.Q4 22 23),pg 25 21 true (.bin .eql
 24 (.k (.int .u8 62))),p 26 (.pick 21 25 (.k (.bool false)))]) (.seq (.Zi [1,26]) (.cond 26 (.seq (.Zd [p 27 (.Za 1),p 28 (.bin .add 27 (.k (.int .i64 1))),p 4 (.Za 28)]) .ret)
 .skip))) (.seq (.Zi []) (.seq (.Zd [p 4 (.Za (.k (.int .i64 (-1))))]) .ret))))))⟩
def U6:Zx:=(.seq (.Zi [0,3,4]) (.seq (.seq (.Zd [p 6 (.Za 4),p 7 (.bin .lss 6 (.k (.int .i64 5)))]) (.cond 7 .skip (.exit 0))) (.seq (.block 1 (.seq (.Zd
 [p 5 (.Za (.k (.int .i64 117)))]) (.seq (.seq (.Zd [p 10 (.Za 4),p 11 (.Za 0),p 12 (.lenOf false 11),p 13 (.bin .lss 10 12)]) (.cond 13 (.Zd [p 14 (.Za 0),p 15 (.Za 4),p
 16 (.Vn 1 14 15),r 17 (.load none 16),p 18 (.conv .i64 17),p 5 (.Za 18)]) .skip)) (.seq (.Zi [0,3,4,5]) (.Zd [p 19 (.Za 3),p 20 (.bin .mul 19 (.k (.int .i64 85))),p
 21 (.Za 5),p 22 (.bin .add 20 21),p 23 (.bin .sub 22 (.k (.int .i64 33))),p 3 (.Za 23)]))))) (.seq (.Zi [0,3,4]) (.Zd [p 8 (.Za 4),p 9 (.bin .add 8 (.k (.int .i64 1))),
 p 4 (.Za 9)])))))
def V9:Z8:=⟨1,[.t 2],(.seq (.Zd [p 2 (.Za (.k (.int .i64 0)))]) (.seq (.Zd [p 3 (.Za (.k (.int .i64 0)))]) (.seq (.seq (.Zd [p 4 (.Za (.k (.int .i64 0)))])
 (.block 0 (.loop U6))) (.seq (.Zi [3]) (.seq (.Zd [p 24 (.Za 3),p 2 (.Za 24)]) .ret)))))⟩
def V8:Z8:=⟨1,[.t 2],(.seq (.Zd [p 2 (.Za (.k .Zk))]) (.seq (.Zd [p 3 (.Za 0),p 4 (.bin .quo 3 (.k (.int .i64 16777216))),p 5 (.conv .u8 4),p 6 (.Za
 0),p 7 (.bin .quo 6 (.k (.int .i64 65536))),p 8 (.bin .rem 7 (.k (.int .i64 256))),p 9 (.conv .u8 8),p 10 (.Za 0),p 11 (.bin .quo 10 (.k (.int .i64 256))),p 12 (.bin .rem 11
 (.k (.int .i64 256))),p 13 (.conv .u8 12),p 14 (.Za 0),p 15 (.bin .rem 14 (.k (.int .i64 256))),p 16 (.conv .u8 15),n 17 (.Qo 5 4 [(.int .u8 0),(.int .u8 0),(.int .u8 0),
 (.int .u8 0)] [(0,1,5),(1,1,9),(2,1,13),(3,1,16)]),p 2 (.Za 17)]) .ret))⟩
def J0:Z8:=⟨2,[.t 4,.t 5,.t 6],(.seq (.Zd [p 4 (.Za (.k (.str []))),p 5 (.Za (.k (.int .i64 0))),p 6 (.Za (.k (.int .i64 0)))]) (.seq (.seq (.Zd [p 7
 (.Za 0),p 8 (.lenOf false 7),p 9 (.bin .gtr 8 (.k (.int .i64 65536)))]) (.cond 9 (.seq (.Zd [p 4 (.Za (.k (.str []))),p 5 (.Za (.k (.int .i64 0))),p 6 (.Za (.k (.int .i64 3)))])
 .ret) .skip)) (.seq (.Zd [p 10 (.Za 0),r 11 (.b2s 10),p 12 (.Za 1),p 4 (.Za 11),p 5 (.Za 12),p 6 (.Za (.k (.int .i64 0)))]) .ret)))⟩
def Vc:Z8:=⟨1,[.t 2],(.seq (.Zd [p 2 (.Za (.k (.int .i64 0)))]) (.seq (.seq (.Zd [p 3 (.Za 0),p 4 (.bin .geq 3 (.k (.int .u8 48))),p 5 (.Za 4),pg 6 5 true
 (.Za 0),pg 7 5 true (.bin .leq 6 (.k (.int .u8 57))),p 8 (.pick 5 7 (.k (.bool false)))]) (.cond 8 (.seq (.Zd [p 9 (.Za 0),p 10 (.bin .sub 9 (.k (.int .u8 48))),p 11 (.conv .i64
 10),p 2 (.Za 11)]) .ret) .skip)) (.seq (.Zi [0]) (.seq (.seq (.Zd [p 12 (.Za 0),p 13 (.bin .geq 12 (.k (.int .u8 65))),p 14 (.Za 13),pg 15 14 true (.Za 0),pg 16 14 true
 (.bin .leq 15 (.k (.int .u8 70))),p 17 (.pick 14 16 (.k (.bool false)))]) (.cond 17 (.seq (.Zd [p 18 (.Za 0),p 19 (.bin .sub 18 (.k (.int .u8 65))),p 20 (.conv .i64 19),p 21 (.bin
 .add 20 (.k (.int .i64 10))),p 2 (.Za 21)]) .ret) .skip)) (.seq (.Zi [0]) (.seq (.seq (.Zd [p 22 (.Za 0),p 23 (.bin .geq 22 (.k (.int .u8 97))),p 24 (.Za 23),pg 25 24 true
 (.Za 0),pg 26 24 true (.bin .leq 25 (.k (.int .u8 102))),p 27 (.pick 24 26 (.k (.bool false)))]) (.cond 27 (.seq (.Zd [p 28 (.Za 0),p 29 (.bin .sub 28 (.k (.int .u8 97))),p 30
 (.conv .i64 29),p 31 (.bin .add 30 (.k (.int .i64 10))),p 2 (.Za 31)]) .ret) .skip)) (.seq (.Zi []) (.seq (.Zd [p 2 (.Za (.k (.int .i64 (-1))))]) .ret))))))))⟩
def W7:Zx:=(.seq (.Zi [0,3,4,5]) (.seq (.seq (.Zd [p 8 (.Za 5),p 9 (.Za 0),p 10 (.lenOf true 9),p 11 (.bin .lss 8 10)]) (.cond 11 .skip (.exit 0)))
 (.seq (.block 1 (.Zd [p 14 (.Za 4),p 15 (.bin .mul 14 (.k (.int .i64 256))),p 4 (.Za 15)])) (.Zd [p 12 (.Za 5),p 13 (.bin .add 12 (.k (.int .i64 1))),p 5 (.Za 13)]))))
def Vx:Z8:=⟨1,[.t 2],(.seq (.Zd [p 2 (.Za (.k (.int .i64 0)))]) (.seq (.Zd [p 6 (.Za 0),w 7 (.call (.k (.fn 208 [] [])) [6]),p 3 (.Za 7),p 4 (.Za (.k
 (.int .i64 1)))]) (.seq (.seq (.Zd [p 5 (.Za (.k (.int .i64 0)))]) (.block 0 (.loop W7))) (.seq (.Zi [3,4]) (.seq (.seq (.Zd [p 16 (.Za 3),p 17 (.Za 4),p
 18 (.bin .quo 17 (.k (.int .i64 2))),p 19 (.bin .geq 16 18)]) (.cond 19 (.Zd [p 20 (.Za 3),p 21 (.Za 4),p 22 (.bin .sub 20 21),p 3 (.Za 22)]) .skip)) (.seq (.Zi [3]) (.seq
 (.Zd [p 23 (.Za 3),p 2 (.Za 23)]) .ret)))))))⟩
def Un:Zx:=(.seq (.Zi [0,3,4]) (.seq (.seq (.Zd [p 5 (.Za 4),p 6 (.Za 0),p 7 (.lenOf true 6),p 8 (.bin .lss 5 7)]) (.cond 8 .skip (.exit 0))) (.seq
 (.block 1 (.Zd [p 11 (.Za 3),p 12 (.bin .mul 11 (.k (.int .i64 256))),p 13 (.Za 0),p 14 (.Za 4),p 15 (.Q4 13 14),p 16 (.conv .i64 15),p 17 (.bin .add 12 16),p 3 (.Za 17)]))
 (.seq (.Zi [0,3,4]) (.Zd [p 9 (.Za 4),p 10 (.bin .add 9 (.k (.int .i64 1))),p 4 (.Za 10)])))))
def Jy:Z8:=⟨1,[.t 2],(.seq (.Zd [p 2 (.Za (.k (.int .i64 0)))]) (.seq (.Zd [p 3 (.Za (.k (.int .i64 0)))]) (.seq (.seq (.Zd [p 4 (.Za (.k (.int .i64 0)))])
 (.block 0 (.loop Un))) (.seq (.Zi [3]) (.seq (.Zd [p 18 (.Za 3),p 2 (.Za 18)]) .ret)))))⟩
def Yd:Z8:=⟨3,[.cell 6 (some 3),.t 7,.t 8],(.seq (.Zd [n 6 (.alloc 134 true [(.int .i64 0),(.int .i64 0),(.str [])]),p 7 (.Za (.k (.int .i64 0))),p 8 (.Za (.k
 (.int .i64 0)))]) (.seq (.Zd [p 10 (.Za 0),p 11 (.Za 1),p 12 (.build [(.int .i64 0),(.int .i64 0),(.str [])] [(0,1,10),(2,1,11)]),n 9 (.alloc 134 true [(.int .i64 0),(.int
 .i64 0),(.str [])]),w0 (.store 3 9 12)]) (.seq (.block 0 (.seq (.seq (.Zd [p 14 (.Za 0),p 15 (.bin .eql 14 (.k (.int .i64 6))),p 16 (.Za 15),pg 17 16 true (.Za 1),pg 18 16
 true (.lenOf true 17),pg 19 16 true (.bin .gtr 18 (.k (.int .i64 1000))),p 20 (.pick 16 19 (.k (.bool false))),p 13 (.Za 20)]) (.seq (.Zi [0,1,2,6,9,13]) (.cond 13 .skip
 (.Zd [p 21 (.Za 0),p 22 (.bin .neq 21 (.k (.int .i64 6))),p 23 (.Za 22),pg 24 23 true (.Za 1),pg 25 23 true (.lenOf true 24),pg 26 23 true (.bin .gtr 25 (.k (.int .i64 100))),
 p 27 (.pick 23 26 (.k (.bool false))),p 13 (.Za 27)])))) (.seq (.Zi [2,6,9,13]) (.cond 13 (.seq (.Zd [p 28 (.build [(.int .i64 0),(.int .i64 0),(.str [])] []),w0 (.store
 3 6 28),p 7 (.Za (.k (.int .i64 0))),p 8 (.Za (.k (.int .i64 26)))]) .ret) (.seq (.Zd [r 30 (.load (some 3) 9),w 31 (.call (.k (.fn 74 [] [])) [30]),p 32 (.bin .neq 31 (.k (.int
 .i64 0))),p 29 (.Za 32)]) (.cond 29 (.seq (.Zd [p 33 (.build [(.int .i64 0),(.int .i64 0),(.str [])] []),w0 (.store 3 6 33),p 7 (.Za (.k (.int .i64 0))),p 8 (.Za (.k (.int
 .i64 37)))]) .ret) .skip)))))) (.seq (.Zi [2,6,9]) (.seq (.Zd [r 34 (.load (some 3) 9),p 35 (.Za 2),w0 (.store 3 6 34),p 7 (.Za 35),p 8 (.Za (.k (.int .i64 0)))]) .ret)))))⟩
def Qx:Z8:=⟨2,[.t 4],(.seq (.Zd [p 4 (.Za (.k (.bool false)))]) (.seq (.Y7 [.op 0 (p 5 (.Za 0)),.op 1 (p 6 (.Z6 5)),.op 2 (p 7 (.Zj 0 6)),.op
 3 (p 8 (.Zj 1 7)),.op 4 (r 9 (.load none 8)),.op 6 (p 11 (.Za 0)),.op 7 (p 12 (.Z6 11)),.op 8 (p 13 (.Zj 0 12)),.op 9 (p 14 (.Zj 0 13)),.op 10 (r 15 (.load none 14)),
 .op 5 (p 10 (.bin .add 9 (.k (.int .i64 1)))),.op 11 (p 16 (.lenOf true 15)),.op 12 (p 17 (.bin .lss 10 16)),.op 13 (p 18 (.Za 17)),.op 14 (pg 19 18 true (.Za 0)),.op 15 (pg
 20 18 true (.Z6 19)),.op 16 (pg 21 18 true (.Zj 0 20)),.op 17 (pg 22 18 true (.Zj 0 21)),.op 18 (rg 23 18 true (.load none 22)),.op 19 (pg 24 18 true (.Za 0)),.op 20
 (pg 25 18 true (.Z6 24)),.op 21 (pg 26 18 true (.Zj 0 25)),.op 22 (pg 27 18 true (.Zj 1 26)),.op 23 (rg 28 18 true (.load none 27)),.op 24 (pg 29 18 true (.bin .add 28
 (.k (.int .i64 1)))),.op 25 (pg 30 18 true (.Q4 23 29)),.op 26 (pg 31 18 true (.Za 1)),.op 27 (pg 32 18 true (.bin .eql 30 31)),.op 28 (p 33 (.pick 18 32 (.k (.bool false)))),
 .op 29 (p 4 (.Za 33))]) .ret))⟩
def G2:Z8:=⟨1,[.t 2,.t 3,.t 4],(.seq (.Zd [p 2 (.Za (.k (.str []))),p 3 (.Za (.k (.int .i64 0))),p 4 (.Za (.k (.int .i64 0)))]) (.seq (.Zd [p 5 (.Za 0),p
 6 (.build [(.int .i64 0),(.bool false)] []),n 7 (.box 301 false 6),w 8 (.call (.k (.fn 214 [] [])) [5,7,(.k (.fn 215 [] []))]),p 9 (.Zt 0 8),p 10 (.Zt 1 8),p 11 (.Zt 2
 8),p 2 (.Za 9),p 3 (.Za 10),p 4 (.Za 11)]) .ret))⟩
def X4:Z8:=⟨1,[.t 2,.t 3,.t 4],(.seq (.Zd [p 2 (.Za (.k (.str []))),p 3 (.Za (.k (.int .i64 0))),p 4 (.Za (.k (.int .i64 0)))]) (.seq (.Zd [p 5 (.Za 0),
 p 6 (.build [.Zk,(.bool false)] []),n 7 (.box 307 false 6),w 8 (.call (.k (.fn 216 [] [])) [5,7,(.k (.fn 217 [] []))]),p 9 (.Zt 0 8),p 10 (.Zt 1 8),p 11 (.Zt 2 8),
 p 2 (.Za 9),p 3 (.Za 10),p 4 (.Za 11)]) .ret))⟩
def H3:Zx:=(.seq (.Zi [0,3,9,10]) (.seq (.Zd [p 11 (.bin .lss 10 9)]) (.seq (.cond 11 .skip (.exit 0)) (.seq (.block 1 (.seq (.Zd [p 12 (.Za 10),p 4 (.Za
 12)]) (.Zd [p 13 (.Za 3),p 14 (.bin .shl 13 (.k (.int .u64 8))),p 15 (.Za 0),p 16 (.Za 4),p 17 (.Q4 15 16),p 18 (.conv .i64 17),p 19 (.bin .or 14 18),p 3 (.Za 19)])))
 (.seq (.Zi [0,3,9,10]) (.Zd [p 20 (.bin .add 10 (.k (.int .i64 1))),p 10 (.Za 20)]))))))
def Nq:Z8:=⟨1,[.t 2],(.seq (.Zd [p 2 (.Za (.k (.int .i64 0)))]) (.seq (.Zd [p 3 (.Za (.k (.int .i64 0)))]) (.seq (.seq (.Zd [p 5 (.Za 0),p 6 (.Q4 5 (.k (.int
 .i64 0))),p 7 (.bin .geq 6 (.k (.int .u8 128)))]) (.cond 7 (.Zd [p 3 (.Za (.k (.int .i64 (-1))))]) .skip)) (.seq (.seq (.Zd [p 8 (.Za 0),p 9 (.lenOf true 8),p 10 (.Za (.k (.int
 .i64 0)))]) (.block 0 (.loop H3))) (.seq (.Zi [3]) (.seq (.Zd [p 21 (.Za 3),p 2 (.Za 21)]) .ret))))))⟩
def Zy:Zx:=(.block 1 (.seq (.Zd [r 24 (.load none 5),r 25 (.load none 4),p 26 (.Za 13),r 27 (.load none 10),w 28 (.call 24 [25,26,27])]) (.block
 2 (.seq (.Zd [p 30 (.bin .eql 28 (.k (.int .i64 1))),p 29 (.Za 30)]) (.cond 29 (.seq (.Zd [p 31 (.Za 12),p 32 (.bin .add 31 (.k (.int .i64 1))),w0 (.store 1 11 32)]) (.exit 0))
 (.seq (.Zd [p 34 (.bin .eql 28 (.k (.int .i64 2))),p 33 (.Za 34)]) (.cond 33 (.seq (.Zd [w0 (.store 1 6 (.k (.str []))),w0 (.store 1 7 (.k (.int .i64 0))),w0 (.store 1 8 (.k (.int
 .i64 5)))]) .ret) .skip)))))))
def Qk:Z8:=⟨3,[.cell 6 none,.cell 7 none,.cell 8 none],(.seq (.Zd [n 4 (.box 302 true 1),n 5 (.box 303 true 2),n 6 (.alloc 9 true [(.str [])]),n 7 (.alloc
 3 true [(.int .i64 0)]),n 8 (.alloc 30 true [(.int .i64 0)])]) (.scope (.seq (.seq (.Zd [p 16 (.Za 0),p 17 (.lenOf true 16),p 18 (.bin .gtr 17 (.k (.int .i64 65536)))]) (.cond
 18 (.seq (.Zd [w0 (.store 1 6 (.k (.str []))),w0 (.store 1 7 (.k (.int .i64 0))),w0 (.store 1 8 (.k (.int .i64 3)))]) .ret) .skip)) (.seq (.Zd [n 9 (.alloc 35 false [.Zk])])
 (.seq (.Zd [p 19 (.Zbu 218 [] [9]),n 10 (.alloc 310 true [.Lb]),w0 (.store 1 10 19)]) (.seq (.Zd [n 11 (.alloc 3 true [(.int .i64 0)]),w0 (.store 1 11 (.k (.int .i64 0)))])
 (.seq .skip (.seq (.seq (.Zd [p 20 (.Za 0),w 21 (.call (.k (.fn 219 [] [])) [20])]) (.block 0 (.rangeFunc 21 [22,23] (.seq (.Zd [p 12 (.Za 22)]) (.Zd [p 13 (.Za 23)])) Zy)))
 (.seq (.Zi [6,7,8,9,11]) (.seq (.seq (.Zd [r 35 (.load none 11),p 36 (.bin .eql 35 (.k (.int .i64 0)))]) (.cond 36 (.seq (.Zd [w0 (.store 1 6 (.k (.str []))),w0 (.store 1
 7 (.k (.int .i64 0))),w0 (.store 1 8 (.k (.int .i64 5)))]) .ret) .skip)) (.seq (.Zd [r 38 (.load none 9),r 39 (.b2s 38),w 40 (.call (.k (.fn 220 [] [])) [39]),p 37 (.Za 40),p
 41 (.Zt 0 37),p 42 (.Zt 1 37),p 14 (.Za 41),p 15 (.Za 42)]) (.seq (.Zi [6,7,8,11,14,15]) (.seq (.seq (.Zd [p 43 (.Za 15),p 44 (.bin .neq 43 (.k (.int .i64 0)))])
 (.cond 44 (.seq (.Zd [p 45 (.Za 15),w0 (.store 1 6 (.k (.str []))),w0 (.store 1 7 (.k (.int .i64 0))),w0 (.store 1 8 45)]) .ret) .skip)) (.seq (.Y7 [.op 1 (r 47 (.load none 11)),
 .op 0 (p 46 (.Za 14)),.op 2 (w0 (.store 1 6 46)),.re 1,.op 3 (w0 (.store 1 7 47)),.op 4 (w0 (.store 1 8 (.k (.int .i64 0))))]) .ret))))))))))))))⟩
def Wp:Z8:=⟨3,[.t 6],(.seq (.Zd [p 6 (.Za (.k (.int .i64 0)))]) (.seq (.Zd [p 8 (.Za 1),w 9 (.call (.k (.fn 221 [] [])) [8]),p 7 (.Za 9)]) (.seq (.block
 0 (.seq (.Zd [p 11 (.Za 1),p 12 (.bin .eql 11 (.k (.int .u8 62))),p 10 (.Za 12)]) (.cond 10 (.seq (.seq (.Zd [p 13 (.Za 0),p 14 (.Z6 13),p 15 (.Zj 1 14),r 16 (.load
 none 15)]) (.cond 16 (.Zd [p 17 (.Za 2),p 18 (.Za 0),p 19 (.Z6 18),p 20 (.Zj 0 19),r 21 (.load none 20),p 22 (.bin .shl 21 (.k (.int .u64 4))),p 23 (.conv .u8 22),n
 24 (.Qo 5 1 [(.int .u8 0)] [(0,1,23)]),w 25 (.call 17 [24])]) .skip)) (.seq (.Zi []) (.seq (.Zd [p 6 (.Za (.k (.int .i64 1)))]) .ret))) (.seq (.Zd [p 27 (.Za 7),p 28
 (.bin .lss 27 (.k (.int .i64 0))),p 26 (.Za 28)]) (.cond 26 (.seq (.Zd [p 6 (.Za (.k (.int .i64 2)))]) .ret) (.seq (.Zd [p 30 (.Za 0),p 31 (.Z6 30),p 32 (.Zj 1 31),r
 33 (.load none 32),p 29 (.Za 33)]) (.cond 29 (.Zd [p 34 (.Za 2),p 35 (.Za 0),p 36 (.Z6 35),p 37 (.Zj 0 36),r 38 (.load none 37),p 39 (.bin .shl 38 (.k (.int .u64 4))),
 p 40 (.Za 7),p 41 (.bin .or 39 40),p 42 (.conv .u8 41),n 43 (.Qo 5 1 [(.int .u8 0)] [(0,1,42)]),w 44 (.call 34 [43])]) .skip))))))) (.seq (.Zi [0,7]) (.seq (.Zd [p 45
 (.Za 0),p 46 (.Za 0),p 47 (.Za 7),p 48 (.Za 0),p 49 (.Z6 48),p 50 (.Zj 1 49),r 51 (.load none 50),p 52 (.un .not 51),p 53 (.Z6 45),p 54 (.Zj 0 53),w0 (.store
 1 54 47),p 55 (.Z6 46),p 56 (.Zj 1 55),w0 (.store 1 56 52)]) (.seq (.Zi []) (.seq (.Zd [p 6 (.Za (.k (.int .i64 0)))]) .ret)))))))⟩
def Zz:Zx:=(.block 1 (.seq (.Zd [r 24 (.load none 5),r 25 (.load none 4),p 26 (.Za 13),r 27 (.load none 10),w 28 (.call 24 [25,26,27])]) (.block
 2 (.seq (.Zd [p 30 (.bin .eql 28 (.k (.int .i64 1))),p 29 (.Za 30)]) (.cond 29 (.seq (.Zd [p 31 (.Za 12),p 32 (.bin .add 31 (.k (.int .i64 1))),w0 (.store 1 11 32)]) (.exit 0))
 (.seq (.Zd [p 34 (.bin .eql 28 (.k (.int .i64 2))),p 33 (.Za 34)]) (.cond 33 (.seq (.Zd [w0 (.store 1 6 (.k (.str []))),w0 (.store 1 7 (.k (.int .i64 0))),w0 (.store 1 8 (.k (.int
 .i64 5)))]) .ret) .skip)))))))
def Ql:Z8:=⟨3,[.cell 6 none,.cell 7 none,.cell 8 none],(.seq (.Zd [n 4 (.box 308 true 1),n 5 (.box 309 true 2),n 6 (.alloc 9 true [(.str [])]),n 7 (.alloc
 3 true [(.int .i64 0)]),n 8 (.alloc 30 true [(.int .i64 0)])]) (.scope (.seq (.seq (.Zd [p 16 (.Za 0),p 17 (.lenOf true 16),p 18 (.bin .gtr 17 (.k (.int .i64 65536)))]) (.cond
 18 (.seq (.Zd [w0 (.store 1 6 (.k (.str []))),w0 (.store 1 7 (.k (.int .i64 0))),w0 (.store 1 8 (.k (.int .i64 3)))]) .ret) .skip)) (.seq (.Zd [n 9 (.alloc 35 false [.Zk])])
 (.seq (.Zd [p 19 (.Zbu 222 [] [9]),n 10 (.alloc 310 true [.Lb]),w0 (.store 1 10 19)]) (.seq (.Zd [n 11 (.alloc 3 true [(.int .i64 0)]),w0 (.store 1 11 (.k (.int .i64 0)))])
 (.seq .skip (.seq (.seq (.Zd [p 20 (.Za 0),w 21 (.call (.k (.fn 219 [] [])) [20])]) (.block 0 (.rangeFunc 21 [22,23] (.seq (.Zd [p 12 (.Za 22)]) (.Zd [p 13 (.Za 23)])) Zz)))
 (.seq (.Zi [6,7,8,9,11]) (.seq (.seq (.Zd [r 35 (.load none 11),p 36 (.bin .eql 35 (.k (.int .i64 0)))]) (.cond 36 (.seq (.Zd [w0 (.store 1 6 (.k (.str []))),w0 (.store 1
 7 (.k (.int .i64 0))),w0 (.store 1 8 (.k (.int .i64 5)))]) .ret) .skip)) (.seq (.Zd [r 38 (.load none 9),r 39 (.b2s 38),w 40 (.call (.k (.fn 220 [] [])) [39]),p 37 (.Za 40),p
 41 (.Zt 0 37),p 42 (.Zt 1 37),p 14 (.Za 41),p 15 (.Za 42)]) (.seq (.Zi [6,7,8,11,14,15]) (.seq (.seq (.Zd [p 43 (.Za 15),p 44 (.bin .neq 43 (.k (.int .i64 0)))])
 (.cond 44 (.seq (.Zd [p 45 (.Za 15),w0 (.store 1 6 (.k (.str []))),w0 (.store 1 7 (.k (.int .i64 0))),w0 (.store 1 8 45)]) .ret) .skip)) (.seq (.Y7 [.op 1 (r 47 (.load none 11)),
 .op 0 (p 46 (.Za 14)),.op 2 (w0 (.store 1 6 46)),.re 1,.op 3 (w0 (.store 1 7 47)),.op 4 (w0 (.store 1 8 (.k (.int .i64 0))))]) .ret))))))))))))))⟩
def Q5:Z8:=⟨3,[.t 6],(.seq (.Zd [p 6 (.Za (.k (.int .i64 0)))]) (.seq (.block 0 (.seq (.Zd [p 42 (.Za 0),p 43 (.Z6 42),p 44 (.Zj 1 43),r 45 (.load
 none 44),p 41 (.Za 45)]) (.cond 41 (.seq (.seq (.Zd [p 46 (.Za 1),p 47 (.bin .neq 46 (.k (.int .u8 62)))]) (.cond 47 (.seq (.Zd [p 6 (.Za (.k (.int .i64 2)))]) .ret) .skip))
 (.seq (.Zd [p 48 (.Za 0),p 49 (.Za 2),w 50 (.call (.k (.fn 223 [] [])) [48,49]),p 6 (.Za 50)]) .ret)) (.seq (.Zd [p 52 (.Za 1),p 53 (.bin .eql 52 (.k (.int .u8 126))),p
 51 (.Za 53)]) (.cond 51 (.Zd [p 54 (.Za 0),p 55 (.Z6 54),p 56 (.Zj 1 55),w0 (.store 1 56 (.k (.bool true)))]) (.seq (.Zd [p 58 (.Za 1),p 59 (.bin .eql 58 (.k (.int .u8
 122))),p 57 (.Za 59)]) (.cond 57 (.seq (.seq (.Zd [p 60 (.Za 0),p 61 (.Z6 60),p 62 (.Zj 0 61),r 63 (.load none 62),p 64 (.lenOf false 63),p 65 (.bin .gtr 64 (.k (.int
 .i64 0)))]) (.cond 65 (.seq (.Zd [p 6 (.Za (.k (.int .i64 2)))]) .ret) .skip)) (.Zd [p 66 (.Za 2),n 67 (.Qo 5 4 [(.int .u8 0),(.int .u8 0),(.int .u8 0),(.int .u8 0)] [(0,
 1,(.k (.int .u8 0))),(1,1,(.k (.int .u8 0))),(2,1,(.k (.int .u8 0))),(3,1,(.k (.int .u8 0)))]),w 68 (.call 66 [67])])) (.seq (.Zd [p 70 (.Za 1),p 71 (.bin .lss 70 (.k
 (.int .u8 33))),p 72 (.Za 71),pg 73 72 false (.Za 1),pg 74 72 false (.bin .gtr 73 (.k (.int .u8 117))),p 75 (.pick 72 (.k (.bool true)) 74),p 69 (.Za 75)]) (.cond 69 (.seq (.Zd
 [p 6 (.Za (.k (.int .i64 2)))]) .ret) (.seq (.Zd [p 9 (.Za 0),p 10 (.Za 0),p 11 (.Z6 10),p 12 (.Zj 0 11),r 13 (.load none 12),p 14 (.Za 1),n 15 (.Qo 5 1 [(.int
 .u8 0)] [(0,1,14)]),w 16 (.append 5 1 1 [(.int .u8 0)] 13 15),p 17 (.Z6 9),p 18 (.Zj 0 17),w0 (.store 1 18 16)]) (.seq (.Zi [0,2]) (.seq (.Zd [p 19 (.Za 0),p 20 (.Z6
 19),p 21 (.Zj 0 20),r 22 (.load none 21),p 23 (.lenOf false 22),p 24 (.bin .eql 23 (.k (.int .i64 5)))]) (.cond 24 (.seq (.Zd [p 26 (.Za 0),p 27 (.Z6 26),p 28 (.Zj
 0 27),r 29 (.load none 28),w 30 (.call (.k (.fn 224 [] [])) [29]),p 25 (.Za 30),p 31 (.Zt 0 25),p 32 (.Zt 1 25),n 7 (.alloc 318 false [(.int .u8 0),(.int .u8 0),(.int .u8
 0),(.int .u8 0)]),w0 (.store 4 7 31),p 8 (.Za 32)]) (.seq (.Zi [0,2,7,8]) (.seq (.seq (.Zd [p 33 (.Za 8),p 34 (.un .not 33)]) (.cond 34 (.seq (.Zd [p 6 (.Za (.k (.int
 .i64 2)))]) .ret) .skip)) (.seq (.Zd [p 35 (.Za 2),p 36 (.Zwo 4 1 7 none none none),w 37 (.call 35 [36])]) (.Zd [p 38 (.Za 0),p 39 (.Z6 38),p 40 (.Zj 0 39),w0 (.store
 1 40 (.k .Zk))]))))) .skip))))))))))))) (.seq (.Zi []) (.seq (.Zd [p 6 (.Za (.k (.int .i64 0)))]) .ret))))⟩
def J2:Z8:=⟨2,[],(.Zd [r 3 (.load none 1),p 4 (.Za 0),w 5 (.append 5 1 1 [(.int .u8 0)] 3 4),w0 (.store 1 1 5)])⟩
def Ur:Z8:=⟨1,[.t 2],(.seq (.Zd [n 1 (.box 9 false 0),p 2 (.Za (.k .Lb))]) (.seq (.Zd [p 3 (.Zbu 225 [] [1]),p 2 (.Za 3)]) .ret))⟩
def Vj:Z8:=⟨1,[.t 2,.t 3],(.seq (.Zd [p 2 (.Za (.k (.str []))),p 3 (.Za (.k (.int .i64 0)))]) (.seq (.seq (.Zd [p 4 (.Za 0),p 5 (.lenOf true 4),p 6 (.bin
 .gtr 5 (.k (.int .i64 65536)))]) (.cond 6 (.seq (.Zd [p 2 (.Za (.k (.str []))),p 3 (.Za (.k (.int .i64 3)))]) .ret) .skip)) (.seq (.Zd [p 7 (.Za 0),p 2 (.Za 7),p 3 (.Za (.k
 (.int .i64 0)))]) .ret)))⟩
def W4:Z8:=⟨1,[.t 2],(.seq (.Zd [p 2 (.Za (.k (.int .i64 0)))]) (.seq (.seq (.Zd [p 3 (.Za 0),p 4 (.bin .geq 3 (.k (.int .u8 97))),p 5 (.Za 4),pg 6 5 true
 (.Za 0),pg 7 5 true (.bin .leq 6 (.k (.int .u8 102))),p 8 (.pick 5 7 (.k (.bool false)))]) (.cond 8 (.Zd [p 9 (.Za 0),p 10 (.bin .sub 9 (.k (.int .u8 32))),p 0 (.Za 10)]) .skip))
 (.seq (.Zi [0]) (.seq (.Zd [p 11 (.Za 0),w 12 (.call (.k (.fn 84 [] [])) [(.k (.str [48,49,50,51,52,53,54,55,56,57,65,66,67,68,69,70])),11]),p 2 (.Za 12)]) .ret))))⟩
def J3:Z8:=⟨2,[],(.Zd [r 3 (.load none 1),p 4 (.Za 0),w 5 (.append 5 1 1 [(.int .u8 0)] 3 4),w0 (.store 1 1 5)])⟩
def Ug:Zx:=(.seq (.Zi [1,5,6]) (.seq (.seq (.Zd [p 22 (.Za 6),p 23 (.lenOf false 22),p 24 (.bin .lss 23 (.k (.int .i64 5)))]) (.cond 24 .skip (.exit
 0))) (.block 1 (.Zd [p 25 (.Za 6),n 26 (.Qo 5 1 [(.int .u8 0)] [(0,1,(.k (.int .u8 117)))]),w 27 (.append 5 1 1 [(.int .u8 0)] 25 26),p 6 (.Za 27)]))))
def Kf:Z8:=⟨2,[.t 4],(.seq (.Zd [p 4 (.Za (.k (.int .i64 0)))]) (.seq (.Zd [p 9 (.Za 0),p 10 (.Z6 9),p 11 (.Zj 0 10),r 12 (.load none 11),p 13 (.lenOf
 false 12),p 5 (.Za 13)]) (.seq (.seq (.Zd [p 14 (.Za 5),p 15 (.bin .eql 14 (.k (.int .i64 1)))]) (.cond 15 (.seq (.Zd [p 4 (.Za (.k (.int .i64 2)))]) .ret) .skip)) (.seq (.seq
 (.Zd [p 16 (.Za 5),p 17 (.bin .gtr 16 (.k (.int .i64 1)))]) (.cond 17 (.seq (.Zd [p 18 (.Za 0),p 19 (.Z6 18),p 20 (.Zj 0 19),r 21 (.load none 20),p 6 (.Za 21)]) (.seq
 (.block 0 (.loop Ug)) (.seq (.Zi [1,5,6]) (.seq (.Zd [p 29 (.Za 6),w 30 (.call (.k (.fn 224 [] [])) [29]),p 28 (.Za 30),p 31 (.Zt 0 28),p 32 (.Zt 1 28),
 n 7 (.alloc 318 false [(.int .u8 0),(.int .u8 0),(.int .u8 0),(.int .u8 0)]),w0 (.store 4 7 31),p 8 (.Za 32)]) (.seq (.Zi [1,5,7,8]) (.seq (.seq (.Zd [p 33 (.Za 8),p 34
 (.un .not 33)]) (.cond 34 (.seq (.Zd [p 4 (.Za (.k (.int .i64 2)))]) .ret) .skip)) (.Zd [p 35 (.Za 1),p 36 (.Za 5),p 37 (.bin .sub 36 (.k (.int .i64 1))),p 38 (.Zwo 4 1 7 none
 (some 37) none),w 39 (.call 35 [38])]))))))) .skip)) (.seq (.Zi []) (.seq (.Zd [p 4 (.Za (.k (.int .i64 1)))]) .ret))))))⟩
def Ep:Zx:=(.seq (.Zi [2,4,7,8,9]) (.seq (.Zd [p 10 (.bin .lss 9 8)]) (.seq (.cond 10 .skip (.exit 0)) (.seq (.block 1 (.seq (.Zd [p 11 (.Vn 1 7 9),r
 12 (.load none 11),p 6 (.Za 12)]) (.Zd [p 13 (.Za 4),p 14 (.bin .mul 13 (.k (.int .u64 85))),p 15 (.Za 6),p 16 (.bin .sub 15 (.k (.int .u8 33))),p 17 (.conv .u64 16),p 18
 (.bin .add 14 17),p 4 (.Za 18)]))) (.seq (.Zi [2,4,7,8,9]) (.Zd [p 19 (.bin .add 9 (.k (.int .i64 1))),p 9 (.Za 19)]))))))
def Nc:Z8:=⟨1,[.cell 2 (some 4),.t 3],(.seq (.Zd [n 2 (.alloc 318 true [(.int .u8 0),(.int .u8 0),(.int .u8 0),(.int .u8 0)]),p 3 (.Za (.k (.bool false)))]) (.seq
 (.Zd [p 4 (.Za (.k (.int .u64 0)))]) (.seq (.seq (.Zd [p 7 (.Za 0),p 8 (.lenOf false 7),p 9 (.Za (.k (.int .i64 0)))]) (.block 0 (.loop Ep))) (.seq (.Zi [2,4])
 (.seq (.Zd [p 20 (.Za 4),p 21 (.bin .shr 20 (.k (.int .u64 24))),p 22 (.conv .u8 21),p 23 (.Za 4),p 24 (.bin .shr 23 (.k (.int .u64 16))),p 25 (.conv .u8 24),p 26 (.Za 4),
 p 27 (.bin .shr 26 (.k (.int .u64 8))),p 28 (.conv .u8 27),p 29 (.Za 4),p 30 (.conv .u8 29),p 31 (.build [(.int .u8 0),(.int .u8 0),(.int .u8 0),(.int .u8 0)] [(0,1,22),(1,
 1,25),(2,1,28),(3,1,30)]),p 32 (.Za 4),p 33 (.bin .lss 32 (.k (.int .u64 4294967296))),w0 (.store 4 2 31),p 3 (.Za 33)]) .ret)))))⟩
def Ny:Zx:=(.seq (.Zi [0,1,5,6]) (.seq (.Zd [p 7 (.bin .lss 6 5)]) (.seq (.cond 7 .skip (.exit 0)) (.seq (.block 1 (.seq (.Zd [p 8 (.Za 6),p 3 (.Za 8)])
 (.seq (.Zd [r 9 (.load none 1),p 10 (.Za 3),p 11 (.Q4 9 10),w 12 (.call (.k (.fn 226 [] [])) [11]),p 13 (.un .not 12),p 14 (.Za 13),pg 15 14 true (.Za 0),pg 16 14 true
 (.Za 3),rg 17 14 true (.load none 1),pg 18 14 true (.Za 3),pg 19 14 true (.Q4 17 18),wg 20 14 true (.call 15 [16,19]),pg 21 14 true (.un .not 20),p 22 (.pick 14 21 (.k (.bool
 false)))]) (.cond 22 .ret .skip)))) (.seq (.Zi [0,1,5,6]) (.Zd [p 23 (.bin .add 6 (.k (.int .i64 1))),p 6 (.Za 23)]))))))
def Xh:Z8:=⟨2,[],(.seq (.Zd [r 4 (.load none 1),p 5 (.lenOf true 4),p 6 (.Za (.k (.int .i64 0)))]) (.block 0 (.loop Ny)))⟩
def G3:Z8:=⟨1,[.t 2],(.seq (.Zd [p 2 (.Za (.k (.bool false)))]) (.seq (.Zd [p 3 (.Za 0),p 4 (.bin .eql 3 (.k (.int .u8 0))),p 5 (.Za 4),pg 6 5 false (.Za 0),
 pg 7 5 false (.bin .eql 6 (.k (.int .u8 9))),p 8 (.pick 5 (.k (.bool true)) 7),p 9 (.Za 8),pg 10 9 false (.Za 0),pg 11 9 false (.bin .eql 10 (.k (.int .u8 10))),p 12 (.pick 9
 (.k (.bool true)) 11),p 13 (.Za 12),pg 14 13 false (.Za 0),pg 15 13 false (.bin .eql 14 (.k (.int .u8 12))),p 16 (.pick 13 (.k (.bool true)) 15),p 17 (.Za 16),pg 18 17 false
 (.Za 0),pg 19 17 false (.bin .eql 18 (.k (.int .u8 13))),p 20 (.pick 17 (.k (.bool true)) 19),p 21 (.Za 20),pg 22 21 false (.Za 0),pg 23 21 false (.bin .eql 22 (.k (.int .u8
 32))),p 24 (.pick 21 (.k (.bool true)) 23),p 2 (.Za 24)]) .ret))⟩
structure Sv (T:Tab):Prop where
 en:T.en 179=some X1
structure Wz (T:Tab):Prop where
 e:T.en 164=none
 f:T.fn 164=some Ke
structure Fa (T:Tab):Prop where
 e:T.en 171=none
 f:T.fn 171=some Ge
structure B9 (T:Tab):Prop where
 e:T.en 172=none
 f:T.fn 172=some Gc
structure D3 (T:Tab):Prop where
 e:T.en 173=none
 f:T.fn 173=some M5
structure Vt (T:Tab):Prop where
 e:T.en 182=none
 f:T.fn 182=some Jt
structure I9 (T:Tab):Prop where
 e:T.en 183=none
 f:T.fn 183=some Eh
 strings_IndexByte:Yt T
structure Nb (T:Tab):Prop where
 e:T.en 184=none
 f:T.fn 184=some Vh
structure Ys (T:Tab):Prop where
 e:T.en 194=none
 f:T.fn 194=some Q1
structure Rm (T:Tab):Prop where
 e:T.en 195=none
 f:T.fn 195=some Kt
structure My (T:Tab):Prop where
 e:T.en 202=none
 f:T.fn 202=some Wq
 Qs:K2 T
structure Hi (T:Tab):Prop where
 e:T.en 203=none
 f:T.fn 203=some V9
structure Hh (T:Tab):Prop where
 e:T.en 204=none
 f:T.fn 204=some V8
structure Rg (T:Tab):Prop where
 e:T.en 205=none
 f:T.fn 205=some J0
structure Gr (T:Tab):Prop where
 e:T.en 206=none
 f:T.fn 206=some Vc
structure Wc (T:Tab):Prop where
 e:T.en 208=none
 f:T.fn 208=some Jy
structure Y5 (T:Tab):Prop where
 e:T.en 210=none
 f:T.fn 210=some Qx
structure Fy (T:Tab):Prop where
 e:T.en 213=none
 f:T.fn 213=some Nq
structure Y4 (T:Tab):Prop where
 e:T.en 218=none
 f:T.fn 218=some J2
structure R8 (T:Tab):Prop where
 e:T.en 220=none
 f:T.fn 220=some Vj
structure Cz (T:Tab):Prop where
 e:T.en 221=none
 f:T.fn 221=some W4
 strings_IndexByte:Yt T
structure Jj (T:Tab):Prop where
 e:T.en 222=none
 f:T.fn 222=some J3
structure D9 (T:Tab):Prop where
 e:T.en 224=none
 f:T.fn 224=some Nc
structure Fu (T:Tab):Prop where
 e:T.en 226=none
 f:T.fn 226=some G3
structure Lj (T:Tab):Prop where
 e:T.en 169=none
 f:T.fn 169=some Yg
 Kl:Uk T
structure Lw (T:Tab):Prop where
 e:T.en 174=none
 f:T.fn 174=some U2
 Jt:Vt T
 Eh:I9 T
 Vh:Nb T
structure Mz (T:Tab):Prop where
 e:T.en 176=none
 f:T.fn 176=some Wr
 Qs:K2 T
structure Zgj (T:Tab):Prop where
 e:T.en 180=none
 f:T.fn 180=some Zat
 Jk:Ye T
 Yg:Lj T
 Ki:Vi T
structure Wb (T:Tab):Prop where
 e:T.en 188=none
 f:T.fn 188=some Kn
 Qs:K2 T
 Wq:My T
 V9:Hi T
 V8:Hh T
 J0:Rg T
structure Lm (T:Tab):Prop where
 e:T.en 189=none
 f:T.fn 189=some Vb
 Qs:K2 T
 Vc:Gr T
structure Lt (T:Tab):Prop where
 e:T.en 190=none
 f:T.fn 190=some Ve
 Jf:Vk T
structure Rn (T:Tab):Prop where
 e:T.en 200=none
 f:T.fn 200=some Yq
 Q1:Ys T
 Nq:Fy T
structure Rj (T:Tab):Prop where
 e:T.en 207=none
 f:T.fn 207=some Vx
 Jy:Wc T
structure Hf (T:Tab):Prop where
 e:T.en 215=none
 f:T.fn 215=some Wp
 W4:Cz T
structure Gk (T:Tab):Prop where
 e:T.en 223=none
 f:T.fn 223=some Kf
 Nc:D9 T
structure R9 (T:Tab):Prop where
 e:T.en 225=none
 f:T.fn 225=some Xh
 G3:Fu T
structure Ls (T:Tab):Prop where
 e:T.en 161=none
 f:T.fn 161=some Uy
 Jc:Hj T
structure Hg (T:Tab):Prop where
 e:T.en 217=none
 f:T.fn 217=some Q5
 Kf:Gk T
 Nc:D9 T
structure El (T:Tab):Prop where
 e:T.en 219=none
 f:T.fn 219=some Ur
 Xh:R9 T
structure Lu (T:Tab):Prop where
 e:T.en 187=none
 f:T.fn 187=some Qn
 Z4:Lo T
structure Ri (T:Tab):Prop where
 e:T.en 191=none
 f:T.fn 191=some Vw
 Vx:Rj T
 Jy:Wc T
 Qn:Lu T
structure Vq (T:Tab):Prop where
 e:T.en 214=none
 f:T.fn 214=some Qk
 J2:Y4 T
 Ur:El T
 Vj:R8 T
structure Vs (T:Tab):Prop where
 e:T.en 216=none
 f:T.fn 216=some Ql
 J3:Jj T
 Ur:El T
 Vj:R8 T
structure Xr (T:Tab):Prop where
 e:T.en 160=none
 f:T.fn 160=some Vv
 Z0:Kw T
structure Je (T:Tab):Prop where
 e:T.en 177=none
 f:T.fn 177=some Zv
 Vd:Wx T
 Qn:Lu T
 Kn:Wb T
 Vb:Lm T
 Ve:Lt T
 Vw:Ri T
 Ua:Hk T
structure Ft (T:Tab):Prop where
 e:T.en 211=none
 f:T.fn 211=some G2
 Qk:Vq T
 Wp:Hf T
structure Eb (T:Tab):Prop where
 e:T.en 212=none
 f:T.fn 212=some X4
 Ql:Vs T
 Q5:Hg T
structure Hl (T:Tab):Prop where
 e:T.en 159=none
 f:T.fn 159=some K1
 Wr:Mz T
 Zv:Je T
structure Nv (T:Tab):Prop where
 e:T.en 163=none
 f:T.fn 163=some X5
 K1:Hl T
structure Li (T:Tab):Prop where
 e:T.en 209=none
 f:T.fn 209=some Yd
 N8:E3 T
structure Na (T:Tab):Prop where
 e:T.en 193=none
 f:T.fn 193=some Vg
 G5:Fv T
 Yd:Li T
structure Mq (T:Tab):Prop where
 e:T.en 196=none
 f:T.fn 196=some Kq
 Yd:Li T
structure Gu (T:Tab):Prop where
 e:T.en 197=none
 f:T.fn 197=some U1
 Qx:Y5 T
 Yd:Li T
 G2:Ft T
 X4:Eb T
structure Ms (T:Tab):Prop where
 e:T.en 198=none
 f:T.fn 198=some Y0
 Qx:Y5 T
 Yd:Li T
structure Ro (T:Tab):Prop where
 e:T.en 199=none
 f:T.fn 199=some V3
 Qx:Y5 T
 Jt:Vt T
 Y2:Ry T
 Yd:Li T
structure Mr (T:Tab):Prop where
 e:T.en 201=none
 f:T.fn 201=some Yz
 Q1:Ys T
 Yd:Li T
structure Zdp (T:Tab):Prop where
 e:T.en 165=none
 f:T.fn 165=some O8
 Aq:Zcb T
 strings_Join:Sv T
structure Zgi (T:Tab):Prop where
 e:T.en 166=none
 f:T.fn 166=some Zas
 N8:E3 T
 Zat:Zgj T
 Aq:Zcb T
structure Hm (T:Tab):Prop where
 e:T.en 185=none
 f:T.fn 185=some Mb
 Vg:Na T
 Q1:Ys T
 Kt:Rm T
 Kq:Mq T
 U1:Gu T
 Y0:Ms T
 V3:Ro T
structure M9 (T:Tab):Prop where
 e:T.en 186=none
 f:T.fn 186=some Vf
 Yq:Rn T
 Yz:Mr T
 Q1:Ys T
structure Rp (T:Tab):Prop where
 e:T.en 175=none
 f:T.fn 175=some V4
 Mb:Hm T
 Vf:M9 T
 Jt:Vt T
 Y2:Ry T
 Bf:Zcc T
structure Fc (T:Tab):Prop where
 e:T.en 158=none
 f:T.fn 158=some Mm
 U2:Lw T
 V4:Rp T
structure Gb (T:Tab):Prop where
 e:T.en 192=none
 f:T.fn 192=some Mn
 Mm:Fc T
structure Fz (T:Tab):Prop where
 e:T.en 178=none
 f:T.fn 178=some Nr
 Mn:Gb T
structure C6 (T:Tab):Prop where
 e:T.en 162=none
 f:T.fn 162=some R6
 Nr:Fz T
structure C3 (T:Tab):Prop where
 e:T.en 168=none
 f:T.fn 168=some N4
 R6:C6 T
 Ke:Wz T
structure C0 (T:Tab):Prop where
 e:T.en 170=none
 f:T.fn 170=some Nz
 R6:C6 T
structure C4 (T:Tab):Prop where
 e:T.en 157=none
 f:T.fn 157=some Ut
 M5:D3 T
 N4:C3 T
 Gc:B9 T
 Ge:Fa T
 Mm:Fc T
 O8:Zdp T
 Zas:Zgi T
 Nz:C0 T
structure Mo (T:Tab):Prop where
 e:T.en 151=none
 f:T.fn 151=some Uh
 Ut:C4 T
 Vv:Xr T
 Uy:Ls T
 R6:C6 T
 X5:Nv T
 Ke:Wz T
end Go.Ev.B

/- The plain law of LexBack: quoted strings, names and ints are read back. -/
namespace Go.Ev
open Go
theorem Ib:∀l:List UInt8,Uc (l.filter Qu)=true
 | []=>rfl
 | c::l=>by
   rw[List.filter_cons]
   split
   ·rename_i h;simp[Uc,h,Ib l]
   ·exact Ib l
theorem Zpv (K:Nat) {N:Int} (h0: -2147483648≤N) (h1:N≤2147483647) (t:List UInt8):Qg (Ec K N t).1 (Ec K N t).2.1 (Ec K N t).2.2=true:=by
 have hreg:(Iy t).length≤20∧Uc (Iy t)=true:=by
  unfold Iy
  refine⟨Nat.le_trans (List.length_filter_le _ _) (by rw[List.length_take];omega),?_⟩
  exact Ib _
 have hname:Qg 3 0 (Hw K)=true:=by
  have hk:([[97],[91],[93],[60,60],[62,62],[120,45,49],[61]].all fun l=>Qg 3 0 l)=true:=by kernel_rfl
  refine List.all_eq_true.1 hk _ ?_
  unfold Hw
  split <;> simp
 unfold Ec
 have hlt:K % 8<8:=Nat.mod_lt _ (by omega)
 generalize K % 8=q at*
 have hq:q=0∨q=1∨q=2∨q=3∨q=4∨q=5∨q=6∨q=7:=by omega
 rcases hq with rfl | rfl | rfl | rfl | rfl | rfl | rfl | rfl
 ·simp[Qg];omega
 ·simp[Qg];omega
 ·by_cases hr:Qg 3 0 (Iy t)=false
  ·simp[hr];exact hname
  ·simp[hr]
 ·simp[Qg,Nj,Mv,hreg.2];omega
 ·simp[Qg,Nj,Mv,hreg.2];omega
 ·simp[Qg];omega
 ·simp[Qg]
 ·simp[Qg]
end Go.Ev

/- The plain law of bases: digits in any base are read back. -/
namespace Go.Ev
open Go
end Go.Ev

/- The plain law of LexBack: the decimal texts of ints and reals are read back. -/
namespace Go.Ev
open Go
end Go.Ev

/- The plain law of LexBack: what a valid token's text is; texts are distinct. -/
namespace Go.Ev
open Go
end Go.Ev

/- LexBack: the law told. -/
namespace Go.Ev
open Go
variable {T : Tab} {st : St}
end Go.Ev

/- What the functions of ascii tell: octets. -/
namespace Go.Ev
open Go
variable {T : Tab} {st : St}
def K3 (c:UInt8):Bool:=decide (c=0) || (decide (c=9) || (decide (c=10) || (decide (c=12) || (decide (c=13) || decide (c=32)))))
def Ox (c:UInt8):Int:=if 48≤c.toNat∧c.toNat≤57 then(c.toNat:Int) - 48 else if 65≤c.toNat∧c.toNat≤70 then(c.toNat:Int) - 55 else if 97≤c.toNat∧c.toNat≤102 then(c.toNat:Int) - 87 else -1
theorem Zuk (c:UInt8): -1≤Ox c∧Ox c≤15:=by unfold Ox;(repeat' split) <;> omega
theorem Zfj (H:B.Fu T) (hwf:st.Wf) (c:UInt8):Qa T st (.fn 226 [] []) [.int .u8 c.toNat] (.bool (K3 c)):=by
 have h:(List.range 256).all (fun c=>Ze6 T0 60 B.G3 [.int .u8 c] (.bool (K3 (UInt8.ofNat c))))=true:=by kernel_rfl
 have:=V7 h c
 simp only[UInt8.ofNat_toNat]at this
 exact Gz Zao H.e H.f hwf rfl this
theorem Hy (H:B.K2 T) (hwf:st.Wf) (c:UInt8):Qa T st (.fn 85 [] []) [.int .u8 c.toNat] (.bool (K3 c)):=by
 have h:(List.range 256).all (fun c=>Ze6 T0 60 B.Qs [.int .u8 c] (.bool (K3 (UInt8.ofNat c))))=true:=by kernel_rfl
 have:=V7 h c
 simp only[UInt8.ofNat_toNat]at this
 exact Gz Zao H.e H.f hwf rfl this
theorem A5 (H:B.Gr T) (hwf:st.Wf) (c:UInt8):Qa T st (.fn 206 [] []) [.int .u8 c.toNat] (.int .i64 (Ox c)):=by
 have h:(List.range 256).all (fun c=>Ze6 T0 60 B.Vc [.int .u8 c] (.int .i64 (Ox (UInt8.ofNat c))))=true:=by kernel_rfl
 have:=V7 h c
 simp only[UInt8.ofNat_toNat]at this
 exact Gz Zao H.e H.f hwf rfl this
theorem Zvw (c:UInt8):(¬(97≤c.toNat∧c.toNat≤102)→Lib.indexByte [48,49,50,51,52,53,54,55,56,57,65,66,67,68,69,70] c=Ox c)∧
  (97≤c.toNat∧c.toNat≤102→IntKind.u8.wrap ((c.toNat:Int) - 32)=((UInt8.ofNat (c.toNat - 32)).toNat:Int)∧Lib.indexByte [48,49,50,51,52,53,54,55,56,57,65,66,67,68,69,70] (UInt8.ofNat (c.toNat - 32))=Ox c):=by
 have h:(List.range 256).all (fun n=>let c:=UInt8.ofNat n;decide (¬(97≤c.toNat∧c.toNat≤102)→Lib.indexByte [48,49,50,51,52,53,54,55,56,57,65,66,67,68,69,70] c=Ox c) &&
  decide (97≤c.toNat∧c.toNat≤102→IntKind.u8.wrap ((c.toNat:Int) - 32)=((UInt8.ofNat (c.toNat - 32)).toNat:Int)∧Lib.indexByte [48,49,50,51,52,53,54,55,56,57,65,66,67,68,69,70] (UInt8.ofNat (c.toNat - 32))=Ox c))=true:=by kernel_rfl
 have:=V7 h c
 simp only[UInt8.ofNat_toNat,Bool.and_eq_true,decide_eq_true_eq]at this
 exact this
theorem Zor (H:B.Cz T) (hwf:st.Wf) (c:UInt8):Qa T st (.fn 221 [] []) [.int .u8 c.toNat] (.int .i64 (Ox c)):=by
 refine Zs H.e H.f rfl ?_
 obtain⟨f1,f2⟩:=Zvw c
 have hi:=fun(d:UInt8)=>Nh (st:=st) H.strings_IndexByte (s:=[48,49,50,51,52,53,54,55,56,57,65,66,67,68,69,70]) (c:=(d.toNat:Int))
 have hu:∀d:UInt8,(d.toNat:Int).toNat.toUInt8=d:=fun d=>by simp
 by_cases h:97≤c.toNat∧c.toNat≤102
 ·obtain⟨w1,w2⟩:=f2 h
  have hi2:=hi (UInt8.ofNat (c.toNat - 32))
  rw[hu,w2]at hi2
  generalize UInt8.ofNat (c.toNat - 32)=d at*
  have h1:(97:Int)≤c.toNat:=by omega
  have h2:(c.toNat:Int)≤102:=by omega
  simp[B.W4,go_sem,h1,h2,h.1,h.2,w1,hi2,Ext.refl hwf]
 ·have hi2:=hi c
  rw[hu,f1 h]at hi2
  by_cases h1:97≤c.toNat
  ·have h1':(97:Int)≤c.toNat:=by omega
   have h2:¬(c.toNat:Int)≤102:=by omega
   have h2':¬c.toNat≤102:=by omega
   simp[B.W4,go_sem,h1,h1',h2,h2',hi2,Ext.refl hwf]
  ·have h1':¬(97:Int)≤c.toNat:=by omega
   simp[B.W4,go_sem,h1,h1',hi2,Ext.refl hwf]
end Go.Ev

/- What is skipped: white space and comments; the regular characters ahead. -/
namespace Go.Ev
open Go
variable {T : Tab} {st : St}
def runN (p:UInt8→Bool):List UInt8→Nat
 | []=>0
 | c::r=>if p c=true then runN p r+1 else 0
theorem E0 (p:UInt8→Bool):∀s,runN p s≤s.length
 | []=>Nat.le_refl _
 | c::r=>by
   have:=E0 p r
   simp only[runN,List.length_cons]
   split <;> omega
def skp:Bool→List UInt8→Nat
 | _,[]=>0
 | true,c::r=>if c=10∨c=13 then skp false r+1 else skp true r+1
 | false,c::r=>if K3 c=true then skp false r+1 else if c=37 then skp true r+1 else 0
theorem A7:∀(b:Bool) (s:List UInt8),skp b s≤s.length
 | b,[]=>by cases b <;> simp[skp]
 | true,c::r=>by
   have h1:=A7 true r
   have h2:=A7 false r
   simp only[skp,List.length_cons]
   split <;> omega
 | false,c::r=>by
   have h1:=A7 true r
   have h2:=A7 false r
   simp only[skp,List.length_cons]
   split
   ·omega
   ·split <;> omega
theorem Zkn (H:B.Vt T) {s:List UInt8} {f:AV} {p:UInt8→Bool} (hp:∀s',s'.Wf→∀c:UInt8,Qa T s' f [.int .u8 c.toNat] (.bool (p c))) (hs:s.length<1000000000000):∀(m i:Nat) (e:Env) (st1:St),i+m=s.length→Ext st st1→Zb e 0= .str s→Zb e 1=f→Zb e 5= .int .i64 i→
  Res (run T (.loop B.Mc) e st1) fun x e' s'=>Ext st s'∧x= .exit 0∧Zb e' 5= .int .i64 ((i+runN p (s.drop i):Nat):Int):=by
 intro m
 induction m with
 | zero=>
   intro i e st1 hi hx g0 g1 g5
   have hil:i=s.length:=by omega
   subst hil
   rw[Zn]
   simp[B.Mc,go_sem,g0,g1,g5,hx,runN]
 | succ m ih=>
   intro i e st1 hi hx g0 g1 g5
   have hil:i<s.length:=by omega
   have hil':(i:Int)<s.length:=by omega
   obtain⟨c,hc,hd⟩:=Z9 hil
   have ek:IntKind.i64.wrap ((i:Int)+1)=((i+1:Nat):Int):=Zf (by omega) (by omega)
   have ih2:=fun e' s'=>ih (i+1) e' s' (by omega)
   obtain⟨R,hR⟩:∃R,R=runN p (s.drop i):=⟨_,rfl⟩
   rw[←hR]
   rw[hd,runN]at hR
   rw[Zn]
   simp[B.Mc,go_sem,g0,g1,g5,hil',hc]
   refine(hp _ hx.wf c).use fun s1 hs1=> ?_
   have hx1:=hx.trans hs1
   cases hr:p c with
   | false=>simp[go_sem,hr]at hR⊢;simp[go_sem,hx1,hR,g5]
   | true=>
     rw[if_pos hr]at hR
     simp[go_sem,hr]
     refine(ih2 _ s1 hx1 (by simp[go_sem,g0]) (by simp[go_sem,g1]) (by simp[go_sem,g5,ek])).mono ?_
     rintro x e' s' ⟨h1,h2,h3⟩
     exact⟨h1,h2,by rw[h3,hR];congr 1;omega⟩
theorem Zaq (H:B.Vt T) (hwf:st.Wf) {s:List UInt8} {f:AV} {p:UInt8→Bool} (hp:∀s',s'.Wf→∀c:UInt8,Qa T s' f [.int .u8 c.toNat] (.bool (p c))) (hs:s.length<1000000000000):Qa T st (.fn 182 [] []) [.str s,f] (.int .i64 (runN p s:Nat)):=by
 refine Zs H.e H.f rfl ?_
 simp[B.Jt,go_sem]
 refine(Zkn H hp hs s.length 0 _ st (by simp) (.refl hwf) (by simp[go_sem]) (by simp[go_sem]) (by simp[go_sem])).mono ?_
 rintro x e' s' ⟨h1,rfl,h3⟩
 simp only[List.drop_zero,Nat.zero_add]at h3
 simp[go_sem,h3,h1]
theorem Zsk (H:B.Lt T) {s:List UInt8} (hs:s.length<1000000000000):∀(m i:Nat) (e:Env) (st1:St),i+m=s.length→Ext st st1→Zb e 0= .str s→Zb e 1= .int .i64 i→
  Res (run T (.loop B.Xx) e st1) fun x e' s'=>Ext st s'∧x= .exit 0∧Zb e' 1= .int .i64 ((i+runN Qu (s.drop i):Nat):Int):=by
 intro m
 induction m with
 | zero=>
   intro i e st1 hi hx g0 g1
   have hil:i=s.length:=by omega
   subst hil
   rw[Zn]
   simp[B.Xx,go_sem,g0,g1,hx,runN]
 | succ m ih=>
   intro i e st1 hi hx g0 g1
   have hil:i<s.length:=by omega
   have hil':(i:Int)<s.length:=by omega
   obtain⟨c,hc,hd⟩:=Z9 hil
   have ek:IntKind.i64.wrap ((i:Int)+1)=((i+1:Nat):Int):=Zf (by omega) (by omega)
   have ih2:=fun e' s'=>ih (i+1) e' s' (by omega)
   obtain⟨R,hR⟩:∃R,R=runN Qu (s.drop i):=⟨_,rfl⟩
   rw[←hR]
   rw[hd,runN]at hR
   rw[Zn]
   simp[B.Xx,go_sem,g0,g1,hil',hc]
   refine(Ef H.Jf hx.wf c).use fun s1 hs1=> ?_
   have hx1:=hx.trans hs1
   cases hr:Qu c with
   | false=>simp[go_sem,hr]at hR⊢;simp[go_sem,hx1,hR,g1]
   | true=>
     rw[if_pos hr]at hR
     simp[go_sem,hr]
     refine(ih2 _ s1 hx1 (by simp[go_sem,g0]) (by simp[go_sem,g1,ek])).mono ?_
     rintro x e' s' ⟨h1,h2,h3⟩
     exact⟨h1,h2,by rw[h3,hR];congr 1;omega⟩
theorem Zgl (H:B.Lt T) (hwf:st.Wf) {s:List UInt8} {i:Nat} (hi:i≤s.length) (hs:s.length<1000000000000):Qa T st (.fn 190 [] []) [.str s,.int .i64 (i:Int)] (.int .i64 ((i+runN Qu (s.drop i):Nat):Int)):=by
 refine Zs H.e H.f rfl ?_
 simp[B.Ve,go_sem]
 refine(Zsk H hs (s.length - i) i _ st (by omega) (.refl hwf) (by simp[go_sem]) (by simp[go_sem])).mono ?_
 rintro x e' s' ⟨h1,rfl,h3⟩
 simp[go_sem,h3,h1]
theorem Zo2 (H:B.Mz T) {s:List UInt8} (hs:s.length<1000000000000):∀(m i:Nat) (b:Bool) (e:Env) (st1:St),i+m=s.length→Ext st st1→Zb e 0= .str s→Zb e 1= .int .i64 i→Zb e 5= .bool b→
  Res (run T (.loop B.J8) e st1) fun x e' s'=>Ext st s'∧((x= .exit 0∧Zb e' 1= .int .i64 ((i+skp b (s.drop i):Nat):Int))∨(x= .ret∧Zb e' 4= .int .i64 ((i+skp b (s.drop i):Nat):Int))):=by
 intro m
 induction m with
 | zero=>
   intro i b e st1 hi hx g0 g1 g5
   have hil:i=s.length:=by omega
   subst hil
   rw[Zn]
   cases b <;> simp[B.J8,go_sem,g0,g1,g5,hx,skp]
 | succ m ih=>
   intro i b e st1 hi hx g0 g1 g5
   have hil:i<s.length:=by omega
   have hil':(i:Int)<s.length:=by omega
   obtain⟨c,hc,hd⟩:=Z9 hil
   have ek:IntKind.i64.wrap ((i:Int)+1)=((i+1:Nat):Int):=Zf (by omega) (by omega)
   obtain⟨R,hR⟩:∃R,R=skp b (s.drop i):=⟨_,rfl⟩
   rw[←hR]
   rw[hd]at hR
   have fin:∀(b2:Bool) e' s',Ext st s'→Zb e' 0= .str s→Zb e' 1= .int .i64 ((i+1:Nat):Int)→Zb e' 5= .bool b2→R=skp b2 (s.drop (i+1))+1→
     Res (run T (.loop B.J8) e' s') fun x e' s'=>Ext st s'∧((x= .exit 0∧Zb e' 1= .int .i64 ((i+R:Nat):Int))∨(x= .ret∧Zb e' 4= .int .i64 ((i+R:Nat):Int))):=by
    intro b2 e' s' hx' k0 k1 k5 hR2
    refine(ih (i+1) b2 e' s' (by omega) hx' k0 k1 k5).mono ?_
    rintro x e2 s2 ⟨h1,h2⟩
    rw[hR2,show i+(skp b2 (s.drop (i+1))+1)=i+1+skp b2 (s.drop (i+1))by omega]
    exact⟨h1,h2⟩
   have c10:((c.toNat:Int)=10)↔c=10:=by rw[←UInt8.toNat_inj];simp;omega
   have c13:((c.toNat:Int)=13)↔c=13:=by rw[←UInt8.toNat_inj];simp;omega
   have c37:((c.toNat:Int)=37)↔c=37:=by rw[←UInt8.toNat_inj];simp;omega
   clear ih
   rw[Zn]
   cases b with
   | true=>
     simp only[skp]at hR
     by_cases h1:c=10
     ·subst h1
      simp at hR
      simp[B.J8,go_sem,g0,g1,g5,hil',hc]
      exact fin false _ _ hx (by simp[go_sem,g0]) (by simp[go_sem,ek]) (by simp[go_sem]) (by simpa using hR)
     ·by_cases h2:c=13
      ·subst h2
       simp at hR
       simp[B.J8,go_sem,g0,g1,g5,hil',hc]
       exact fin false _ _ hx (by simp[go_sem,g0]) (by simp[go_sem,ek]) (by simp[go_sem]) (by simpa using hR)
      ·rw[if_neg (by simp[h1,h2])]at hR
       simp[B.J8,go_sem,g0,g1,g5,hil',hc,c10,c13,h1,h2]
       exact fin true _ _ hx (by simp[go_sem,g0]) (by simp[go_sem,ek]) (by simp[go_sem]) hR
   | false=>
     simp only[skp]at hR
     simp[B.J8,go_sem,g0,g1,g5,hil',hc]
     refine(Hy H.Qs hx.wf c).use fun s1 hs1=> ?_
     have hx1:=hx.trans hs1
     cases hb:K3 c with
     | true=>
       rw[if_pos hb]at hR
       simp[go_sem,g0,g1,g5]
       exact fin false _ _ hx1 (by simp[go_sem,g0]) (by simp[go_sem,ek]) (by simp[go_sem,g5]) hR
     | false=>
       rw[if_neg (by simp[hb])]at hR
       by_cases h1:c=37
       ·subst h1
        simp at hR
        simp[go_sem,g0,g1,g5,hc]
        exact fin true _ _ hx1 (by simp[go_sem,g0]) (by simp[go_sem,ek]) (by simp[go_sem]) hR
       ·rw[if_neg h1]at hR
        simp[go_sem,g0,g1,g5,hc,c37,h1,hx1,hR]
theorem Zl8 (H:B.Mz T) (hwf:st.Wf) {s:List UInt8} {i:Nat} (hi:i≤s.length) (hs:s.length<1000000000000):Qa T st (.fn 176 [] []) [.str s,.int .i64 (i:Int)] (.int .i64 ((i+skp false (s.drop i):Nat):Int)):=by
 refine Zs H.e H.f rfl ?_
 simp[B.Wr,go_sem]
 refine(Zo2 H hs (s.length - i) i false _ st (by omega) (.refl hwf) (by simp[go_sem]) (by simp[go_sem]) (by simp[go_sem])).mono ?_
 rintro x e' s' ⟨h1,⟨rfl,h3⟩ | ⟨rfl,h3⟩⟩
 ·simp[go_sem,h3,h1]
 ·simp[go_sem,h3,h1]
end Go.Ev

/- The reader skips white space and comments. -/
namespace Go.Ev
open Go
variable {T : Tab} {st : St}
def neC (c:UInt8):Bool:=decide (c≠10) && decide (c≠13)
theorem Zrv:∀r:List UInt8,skp true r=runN neC r+skp false (r.drop (runN neC r))
 | []=>rfl
 | c::r=>by
   have ih:=Zrv r
   by_cases h:c=10∨c=13
   ·have h1:neC c=false:=by rcases h with rfl | rfl <;> rfl
    have h2:K3 c=true:=by rcases h with rfl | rfl <;> rfl
    rw[skp,if_pos h,runN,if_neg (by simp[h1]),List.drop_zero,Nat.zero_add,skp,if_pos h2]
   ·have h1:neC c=true:=by simp[neC];exact⟨fun e=>h (.inl e),fun e=>h (.inr e)⟩
    rw[skp,if_neg h,runN,if_pos h1,List.drop_succ_cons,ih];omega
theorem Znb:∀s:List UInt8,skp false s=runN K3 s+skp false (s.drop (runN K3 s))
 | []=>rfl
 | c::r=>by
   have ih:=Znb r
   by_cases h:K3 c=true
   ·rw[skp,if_pos h,runN,if_pos h,List.drop_succ_cons,ih];omega
   ·rw[runN,if_neg h,List.drop_zero,Nat.zero_add]
theorem Zaal {t r:List UInt8} (h:t=37::r):skp false t=runN neC t+skp false (t.drop (runN neC t)):=by
 subst h
 have:=Zrv r
 rw[skp,if_neg (by decide),if_pos rfl,runN,if_pos (by rfl),List.drop_succ_cons]
 omega
theorem Zm9 (p:UInt8→Bool):∀(s:List UInt8) c r,s.drop (runN p s)=c::r→p c=false
 | [],c,r,h=>by simp[runN]at h
 | d::t,c,r,h=>by
   by_cases hd:p d=true
   ·rw[runN,if_pos hd,List.drop_succ_cons]at h
    exact Zm9 p t c r h
   ·rw[runN,if_neg hd,List.drop_zero]at h
    injection h with h1 h2
    subst h1
    simpa using hd
theorem Zh8 (H:B.I9 T) (hwf:st.Wf) (c:UInt8):Qa T st (.fn 183 [] []) [.int .u8 c.toNat] (.bool (K3 c)):=by
 refine Zs H.e H.f rfl ?_
 have hi:=fun st=>Nh (st:=st) H.strings_IndexByte (s:=[0,9,10,12,13,32]) (c:=c.toNat)
 have h:(List.range 256).all (fun n=>let c:=UInt8.ofNat n;decide (0≤Lib.indexByte [0,9,10,12,13,32] c) == K3 c)=true:=by kernel_rfl
 have:=V7 h c
 simp only[UInt8.ofNat_toNat,beq_iff_eq]at this
 simp[B.Eh,go_sem,hi,Ext.refl hwf]
 simpa using this
theorem Zru (H:B.Nb T) (hwf:st.Wf) (c:UInt8):Qa T st (.fn 184 [] []) [.int .u8 c.toNat] (.bool (neC c)):=by
 have h:(List.range 256).all (fun c=>Ze6 T0 60 B.Vh [.int .u8 c] (.bool (neC (UInt8.ofNat c))))=true:=by kernel_rfl
 have:=V7 h c
 simp only[UInt8.ofNat_toNat]at this
 exact Gz Zao H.e H.f hwf rfl this
abbrev Ia (l:Bool) (s:List UInt8) (at_:Nat):Z7:= .cells 278 l [.str s,.int .i64 (at_:Int)]
theorem Zz7 {h:Heap} {p i:Nat} {s:List UInt8} {l:Bool} (g:Zh h p=some (Ia l s i)):Zo h p 0=some (.str s):=by simp[Zo,g]
theorem Zti {h:Heap} {p i:Nat} {s:List UInt8} {l:Bool} (g:Zh h p=some (Ia l s i)):Zo h p 1=some (.int .i64 (i:Int)):=by simp[Zo,g]
theorem rdrW {h:Heap} {p i:Nat} {s:List UInt8} {l:Bool} {j:Nat} (g:Zh h p=some (Ia l s i)):Z5 h p 1 [.int .i64 (j:Int)]=some (Qi h p (Ia l s j)):=Y8 g rfl (by simp)
theorem Zwm (H:B.Lw T) {s:List UInt8} {l:Bool} {p:Nat} (hs:s.length<1000000000000):∀(m i:Nat) (e:Env) (st1:St),s.length - i<m→i≤s.length→Frm [p] st st1→Zh st1.h p=some (Ia l s i)→Zb e 0= .ptr p 0→
  Res (run T (.loop B.Rv) e st1) fun x e' s'=>Frm [p] st s'∧x= .ret∧Zh s'.h p=some (Ia l s (i+skp false (s.drop i))):=by
 intro m
 induction m with
 | zero=>intro i e st1 h;omega
 | succ m ih=>
   intro i e st1 hm hi hx g g0
   have hb:=Znb (s.drop i)
   have hle:=E0 K3 (s.drop i)
   rw[List.length_drop]at hle
   have hhd:=Zm9 K3 (s.drop i)
   obtain⟨R,hR⟩:∃R,R=skp false (s.drop i):=⟨_,rfl⟩
   rw[←hR]at hb⊢
   rw[List.drop_drop]at hb hhd
   have hrun:=fun st1 hw=>Zaq (st:=st1) H.Jt hw (s:=s.drop i) (f:= .fn 183 [] []) (p:=K3) (fun s' hw c=>Zh8 H.Eh hw c) (by simp;omega)
   generalize runN K3 (s.drop i)=k at*
   clear hR
   have ek:IntKind.i64.wrap ((i:Int)+(k:Int))=((i+k:Nat):Int):=Zf (by omega) (by omega)
   have r0:=Zz7 g
   have r1:=Zti g
   have hsub:Q6 s (some (.int .i64 (i:Int))) none=some (.str (s.drop i)):=by rw[Qp (by omega) (by omega)];simp
   rw[Zn]
   simp[B.Rv,go_sem,g0,RO.run,r0,r1,hsub]
   refine(hrun _ (Ext.aside hx.wf 23).wf).use fun s1 x1=> ?_
   have x1':=(Ext.aside hx.wf 23).trans x1
   have g1:=x1'.get hx.wf g
   have w1:=rdrW (j:=i+k) g1
   simp[go_sem,g0,RO.run,WO.run,reI,Zti g1,ek]
   refine⟨rfl,?_⟩
   simp only[Int.natCast_add]at w1
   have g2:=Zc (o:=Ia l s (i+k)) g1
   have f2:Frm [p] st ⟨Qi s1.h p (Ia l s (i+k)),s1.nx⟩:=(hx.trans (x1'.fr []) (by simp)).trans (Frm.set x1.wf g1) (by simp)
   have q0:=Zz7 g2
   have q1:=Zti g2
   rw[Int.natCast_add]at q1
   simp[go_sem,g0,RO.run,WO.run,Zti g1,ek,w1]
   by_cases hend:i+k=s.length
   ·have hd0:s.drop (i+k)=[]:=List.drop_eq_nil_of_le (by omega)
    rw[hd0]at hb
    simp[skp]at hb
    subst hb
    have he:(i:Int)+(R:Int)=s.length:=by omega
    simp[go_sem,g0,RO.run,WO.run,q0,q1,he]
    exact⟨f2.trans ((Ext.aside f2.wf 26).fr []) (by simp),g2⟩
   ·obtain⟨c,hc,hd⟩:=Z9 (s:=s) (i:=i+k) (by omega)
    have he:¬(i:Int)+(k:Int)=s.length:=by omega
    have hik:(0:Int)≤(i:Int)+(k:Int):=by omega
    have htn:((i:Int)+(k:Int)).toNat=i+k:=by omega
    have hbk:=hhd c _ hd
    by_cases hc37:c=37
    ·subst hc37
     have hsk:skp false (s.drop (i+k))=runN neC (s.drop (i+k))+skp false (s.drop (i+k+runN neC (s.drop (i+k)))):=by
      have:=Zaal hd;rwa[List.drop_drop]at this
     have hle2:=E0 neC (s.drop (i+k))
     rw[List.length_drop]at hle2
     have hpos:1≤runN neC (s.drop (i+k)):=by rw[hd,runN,if_pos (by rfl)];omega
     have hrun2:=fun st1 hw=>Zaq (st:=st1) H.Jt hw (s:=s.drop (i+k)) (f:= .fn 184 [] []) (p:=neC) (fun s' hw c=>Zru H.Vh hw c) (by simp;omega)
     rw[hsk]at hb
     clear hsk
     generalize runN neC (s.drop (i+k))=k2 at*
     have ek2:IntKind.i64.wrap ((i:Int)+(k:Int)+(k2:Int))=((i+k+k2:Nat):Int):=by rw[Zf (by omega) (by omega)];omega
     have hsub2:Q6 s (some (.int .i64 ((i:Int)+(k:Int)))) none=some (.str (s.drop (i+k))):=by rw[Qp (by omega) (by omega),htn]
     simp[go_sem,g0,RO.run,WO.run,q0,q1,he,hc,hik,htn,hsub2]
     have f2a:=f2.trans ((Ext.aside f2.wf 49).fr []) (by simp)
     refine(hrun2 _ f2a.wf).use fun s3 x3=> ?_
     have f3:=f2a.trans (x3.fr []) (by simp)
     have g3:=x3.get f2a.wf g2
     have w3:=rdrW (j:=i+k+k2) g3
     have p1:=Zti g3
     rw[Int.natCast_add]at p1
     simp[go_sem,g0,RO.run,WO.run,reI,p1,ek2]
     refine⟨rfl,?_⟩
     simp only[Int.natCast_add]at w3 ek2
     simp[go_sem,g0,RO.run,WO.run,p1,ek2,w3]
     have f4:=f3.trans (Frm.set f3.wf g3 (o:=Ia l s (i+k+k2))) (by simp)
     have g4:=Zc (o:=Ia l s (i+k+k2)) g3
     have hRR:R=k+(k2+skp false (s.drop (i+k+k2))):=hb
     rw[show i+R=i+k+k2+skp false (s.drop (i+k+k2))by omega]
     exact ih (i+k+k2) _ _ (by omega) (by omega) f4 g4 (by simp[go_sem])
    ·have h37:¬(c.toNat:Int)=37:=by rw[←UInt8.toNat_inj]at hc37;simp at hc37;omega
     have hz:skp false (s.drop (i+k))=0:=by rw[hd,skp,if_neg (by simp[hbk]),if_neg hc37]
     rw[hz]at hb
     simp at hb
     subst hb
     simp[go_sem,g0,RO.run,WO.run,q0,q1,he,hc,hik,htn,h37]
     exact⟨f2.trans ((Ext.aside f2.wf 26).fr []) (by simp),g2⟩
theorem Zyj (H:B.Lw T) {s:List UInt8} {l:Bool} {p i:Nat} (hs:s.length<1000000000000) (hi:i≤s.length) (hwf:st.Wf) (g:Zh st.h p=some (Ia l s i)):
  Jg (call T (.fn 174 [] []) [.ptr p 0] st) fun v s'=>v= .tuple []∧Frm [p] st s'∧Zh s'.h p=some (Ia l s (i+skp false (s.drop i))):=by
 refine Q3 H.e H.f rfl ?_
 simp[B.U2,go_sem]
 refine(Zwm H hs (s.length - i+1) i _ st (by omega) hi (.refl hwf _) g (by simp[go_sem])).mono ?_
 rintro x e' s' ⟨h1,rfl,h3⟩
 simp[go_sem]
 exact⟨h1.Zp,by rw[Z2 (hwf.lt _ _ g)];exact h3⟩
end Go.Ev

/- Tokens with a text; numbers out of octets. -/
namespace Go.Ev
open Go
variable {T : Tab} {st : St}
abbrev T3:=(Int×Int×List UInt8)×Nat×Int
def tk3 (t:T3):AV:= .tuple [.agg [.int .i64 t.1.1,.int .i64 t.1.2.1,.str t.1.2.2],.int .i64 (t.2.1:Int),.int .i64 t.2.2]
def Qt (e:Int):T3:=((0,0,[]),0,e)
def Xd (k:Int) (x:List UInt8) (n:Nat):T3:=
 if(k=6∧1000<x.length)∨(k≠6∧100<x.length)then Qt 26 else if Qg k 0 x=true then((k,0,x),n,0)else Qt 37
theorem Xe (h:Heap) (n:Nat):Zh ((n,Z7.cells 134 true [.int .i64 0,.int .i64 0,.str []])::h) n=some (.cells 134 true [.int .i64 0,.int .i64 0,.str []]):=by simp[Ze]
theorem Ds (H:B.Ys T) (hwf:st.Wf) {p:AV}:Qa T st (.fn 194 [] []) [p] (tk3 (Qt 37)):=by
 refine Zs H.e H.f rfl ?_
 have hx:=Ext.new hwf (.cells 134 true [.int .i64 0,.int .i64 0,.str []])
 have hg:=Xe st.h st.nx
 simp[B.Q1,go_sem,NO.run,Qj hg,WO.run,Zg,Zm,Zr,RO.run,Qd (Zc hg),tk3,Qt]
 exact hx.Qh (st:=st) hg (Nat.le_refl _)
theorem G0 (H:B.Li T) (hwf:st.Wf) {k:Int} {x:List UInt8} {n:Nat} (hs:x.length<1000000000000):Qa T st (.fn 209 [] []) [.int .i64 k,.str x,.int .i64 (n:Int)] (tk3 (Xd k x n)):=by
 refine Zs H.e H.f rfl ?_
 have hx0:=Ext.new hwf (.cells 134 true [.int .i64 0,.int .i64 0,.str []])
 have hx:=hx0.trans (Ext.new hx0.wf (.cells 134 true [.int .i64 k,.int .i64 0,.str x]))
 have hg:Zh ((st.nx+1,Z7.cells 134 true [.int .i64 k,.int .i64 0,.str x])::(st.nx,Z7.cells 134 true [.int .i64 0,.int .i64 0,.str []])::st.h) st.nx=some (.cells 134 true [.int .i64 0,.int .i64 0,.str []]):=by simp[Ze]
 have hg2:Zh ((st.nx+1,Z7.cells 134 true [.int .i64 k,.int .i64 0,.str x])::(st.nx,Z7.cells 134 true [.int .i64 0,.int .i64 0,.str []])::st.h) (st.nx+1)=some (.cells 134 true [.int .i64 k,.int .i64 0,.str x]):=by simp[Ze]
 simp only[Nat.add_assoc,Nat.reduceAdd]at hx
 have bad:∀{s1:St},Ext st s1→Zh s1.h st.nx=some (.cells 134 true [.int .i64 0,.int .i64 0,.str []])→∀k n t,Ext st ⟨Qi s1.h st.nx (.cells 134 true [.int .i64 k,.int .i64 n,.str t]),s1.nx⟩:=fun e1 g1 k n t=>e1.Qh g1 (Nat.le_refl _)
 have fin:∀s1,Ext st s1→Zh s1.h st.nx=some (.cells 134 true [.int .i64 0,.int .i64 0,.str []])→True:=fun _ _ _=>trivial
 obtain⟨b,hb⟩:∃b:Bool,b=(decide (k=6∧1000<x.length) || decide (k≠6∧100<x.length)):=⟨_,rfl⟩
 simp[B.Yd,go_sem,NO.run,Vo,Nat.add_assoc]
 unfold Xd
 by_cases hk:k=6
 ·subst hk
  by_cases hl:1000<x.length
  ·have hl':(1000:Int)<x.length:=by omega
   simp[go_sem,hl,hl',Qj hg,WO.run,Zg,Zm,Zr,RO.run,Qd (Zc hg),tk3,Qt]
   exact bad (s1:=⟨_,_⟩) hx hg _ _ _
  ·have hl':¬(1000:Int)<x.length:=by omega
   simp[go_sem,hl,hl',RO.run,K5]
   refine(Zgp H.N8 hx.wf (by omega)).use fun s1 x1=> ?_
   have y1:=hx.trans x1
   have g1:=x1.get hx.wf hg
   have g2:=x1.get hx.wf hg2
   cases hr:Qg 6 0 x with
   | false=>
     simp[go_sem,hr,Qj g1,WO.run,Zg,Zm,Zr,RO.run,Qd (Zc g1),tk3,Qt]
     exact bad y1 g1 _ _ _
   | true=>
     simp[go_sem,hr,Qd g2,Qj g1,WO.run,Zg,Zm,Zr,RO.run,Qd (Zc g1),tk3,Qt]
     exact bad y1 g1 _ _ _
 ·by_cases hl:100<x.length
  ·have hl':(100:Int)<x.length:=by omega
   simp[go_sem,hk,hl,hl',Qj hg,WO.run,Zg,Zm,Zr,RO.run,Qd (Zc hg),tk3,Qt]
   exact bad (s1:=⟨_,_⟩) hx hg _ _ _
  ·have hl':¬(100:Int)<x.length:=by omega
   simp[go_sem,hk,hl,hl',RO.run,K5]
   refine(Zgp H.N8 hx.wf (by omega)).use fun s1 x1=> ?_
   have y1:=hx.trans x1
   have g1:=x1.get hx.wf hg
   have g2:=x1.get hx.wf hg2
   cases hr:Qg k 0 x with
   | false=>
     simp[go_sem,hr,Qj g1,WO.run,Zg,Zm,Zr,RO.run,Qd (Zc g1),tk3,Qt]
     exact bad y1 g1 _ _ _
   | true=>
     simp[go_sem,hr,Qd g2,Qj g1,WO.run,Zg,Zm,Zr,RO.run,Qd (Zc g1),tk3,Qt]
     exact bad y1 g1 _ _ _
theorem Js (H:B.Lu T) (hwf:st.Wf) {k:Int} {x:List UInt8} {n:Nat} (hs:x.length<1000000000000):Qa T st (.fn 187 [] []) [.int .i64 k,.str x,.int .i64 (n:Int)] (tk3 (Xd k x n)):=by
 refine Zs H.e H.f rfl ?_
 have hx0:=Ext.new hwf (.cells 134 true [.int .i64 0,.int .i64 0,.str []])
 have hx:=hx0.trans (Ext.new hx0.wf (.cells 134 true [.int .i64 k,.int .i64 0,.str x]))
 have hg:Zh ((st.nx+1,Z7.cells 134 true [.int .i64 k,.int .i64 0,.str x])::(st.nx,Z7.cells 134 true [.int .i64 0,.int .i64 0,.str []])::st.h) st.nx=some (.cells 134 true [.int .i64 0,.int .i64 0,.str []]):=by simp[Ze]
 have hg2:Zh ((st.nx+1,Z7.cells 134 true [.int .i64 k,.int .i64 0,.str x])::(st.nx,Z7.cells 134 true [.int .i64 0,.int .i64 0,.str []])::st.h) (st.nx+1)=some (.cells 134 true [.int .i64 k,.int .i64 0,.str x]):=by simp[Ze]
 simp only[Nat.add_assoc,Nat.reduceAdd]at hx
 have bad:∀{s1:St},Ext st s1→Zh s1.h st.nx=some (.cells 134 true [.int .i64 0,.int .i64 0,.str []])→∀k n t,Ext st ⟨Qi s1.h st.nx (.cells 134 true [.int .i64 k,.int .i64 n,.str t]),s1.nx⟩:=fun e1 g1 k n t=>e1.Qh g1 (Nat.le_refl _)
 simp[B.Qn,go_sem,NO.run,Vo,Nat.add_assoc]
 unfold Xd
 by_cases hk:k=6
 ·subst hk
  by_cases hl:1000<x.length
  ·have hl':(1000:Int)<x.length:=by omega
   simp[go_sem,hl,hl',Qj hg,WO.run,Zg,Zm,Zr,RO.run,Qd (Zc hg),tk3,Qt]
   exact bad (s1:=⟨_,_⟩) hx hg _ _ _
  ·have hl':¬(1000:Int)<x.length:=by omega
   simp[go_sem,hl,hl',RO.run,K5]
   refine(Bl H.Z4 hx.wf (by omega)).use fun s1 x1=> ?_
   have y1:=hx.trans x1
   have g1:=x1.get hx.wf hg
   have g2:=x1.get hx.wf hg2
   cases hr:Qg 6 0 x with
   | false=>
     simp[go_sem,hr,Qj g1,WO.run,Zg,Zm,Zr,RO.run,Qd (Zc g1),tk3,Qt]
     exact bad y1 g1 _ _ _
   | true=>
     simp[go_sem,hr,Qd g2,Qj g1,WO.run,Zg,Zm,Zr,RO.run,Qd (Zc g1),tk3,Qt]
     exact bad y1 g1 _ _ _
 ·by_cases hl:100<x.length
  ·have hl':(100:Int)<x.length:=by omega
   simp[go_sem,hk,hl,hl',Qj hg,WO.run,Zg,Zm,Zr,RO.run,Qd (Zc hg),tk3,Qt]
   exact bad (s1:=⟨_,_⟩) hx hg _ _ _
  ·have hl':¬(100:Int)<x.length:=by omega
   simp[go_sem,hk,hl,hl',RO.run,K5]
   refine(Bl H.Z4 hx.wf (by omega)).use fun s1 x1=> ?_
   have y1:=hx.trans x1
   have g1:=x1.get hx.wf hg
   have g2:=x1.get hx.wf hg2
   cases hr:Qg k 0 x with
   | false=>
     simp[go_sem,hr,Qj g1,WO.run,Zg,Zm,Zr,RO.run,Qd (Zc g1),tk3,Qt]
     exact bad y1 g1 _ _ _
   | true=>
     simp[go_sem,hr,Qd g2,Qj g1,WO.run,Zg,Zm,Zr,RO.run,Qd (Zc g1),tk3,Qt]
     exact bad y1 g1 _ _ _
theorem Eu (H:B.Y5 T) (hwf:st.Wf) {p i:Nat} {s:List UInt8} {l:Bool} (g:Zh st.h p=some (Ia l s i)) (hs:s.length<1000000000000) (hi:i<s.length) {c:UInt8}:
  Qa T st (.fn 210 [] []) [.ptr p 0,.int .u8 (c.toNat:Int)] (.bool (s[i+1]? == some c)):=by
 refine Zs H.e H.f rfl ?_
 have q0:=Zz7 g
 have q1:=Zti g
 obtain⟨I,hI⟩:∃I:Int,I=(i:Int):=⟨_,rfl⟩
 obtain⟨w,hw⟩:∃w:Int,w=(i:Int)+1:=⟨_,rfl⟩
 have ek:IntKind.i64.wrap (I+1)=w:=by rw[hI,Zf (by omega) (by omega),hw]
 rw[←hI]at q1
 by_cases h:i+1<s.length
 ·obtain⟨d,hd,_⟩:=Z9 h
  have h':w<s.length:=by omega
  have hn:(0:Int)≤w:=by omega
  have ht:w.toNat=i+1:=by omega
  have hcd:((d.toNat:Int)=(c.toNat:Int))↔d=c:=by rw[←UInt8.toNat_inj];omega
  rw[hd]
  clear h hs hi hI hw
  simp[B.Qx,go_sem,RO.run,q1,ek]
  simp[go_sem,RO.run,q0,ek,h']
  simp[go_sem,RO.run,q1,ek,hd,hn,ht,hcd]
  refine⟨by by_cases e:d=c <;> simp[e],Ext.aside hwf 30⟩
 ·have hd:s[i+1]? =none:=List.getElem?_eq_none (by omega)
  have h':¬w<s.length:=by omega
  rw[hd]
  clear h hs hi hI hw
  simp[B.Qx,go_sem,RO.run,q1,ek]
  simp[go_sem,RO.run,q0,ek,h']
  exact Ext.aside hwf 30
end Go.Ev

/- Numbers out of octets. -/
namespace Go.Ev
open Go
variable {T : Tab} {st : St}
def Nl (n:Int):List UInt8→Int
 | []=>n
 | c::r=>Nl (n*256+c.toNat) r
def Dm (s:List UInt8):Int:=Nl 0 s
def Zey:List UInt8→Int
 | []=>0
 | c::r=>Nl (if 128≤c.toNat then -1 else 0) (c::r)
theorem Zqd {n:Int} {c:Nat} (h0: -1099511627776≤n) (h1:n≤1099511627776) (hc:c<256):ior .i64 (n*256) (c:Int)=n*256+c:=by
 unfold ior
 obtain⟨q,hq⟩:∃q:Nat,(q:Int)=n % 72057594037927936:=⟨(n % 72057594037927936).toNat,by omega⟩
 have e1:(BitVec.ofInt IntKind.i64.bits (n*256)).toNat=2 ^ 8*q:=by
  rw[BitVec.toNat_ofInt]
  show ((n*256) % ((2 ^ 64:Nat):Int)).toNat=_
  have:(n*256) % ((2 ^ 64:Nat):Int)=256*(q:Int):=by rw[hq];omega
  rw[this];omega
 have e2:(BitVec.ofInt IntKind.i64.bits (c:Int)).toNat=c:=by
  rw[ofInt_ofNat]
  show (BitVec.ofNat 64 c).toNat=c
  rw[BitVec.toNat_ofNat,Nat.mod_eq_of_lt (by omega)]
 rw[BitVec.toNat_or,e1,e2,←Nat.two_pow_add_eq_or_of_lt (i:=8) (by omega)]
 simp[IntKind.wrap,IntKind.signed,IntKind.bits]
 omega
theorem Zxm {n:Int} (h0: -1099511627776≤n) (h1:n≤1099511627776):Zqf .i64 n 8=n*256:=by
 unfold Zqf
 have:(n*((2 ^ (min ((8:Int).toNat) IntKind.i64.bits):Nat):Int))=n*256:=by simp[IntKind.bits]
 rw[this,Zf (by omega) (by omega)]
theorem Aw:∀(s:List UInt8) (n:Int), -1≤n→n≤0→s.length≤4→-1099511627776≤Nl n s∧Nl n s≤1099511627776
 | [],n,h0,h1,h=>by simp[Nl];omega
 | [a],n,h0,h1,h=>by have:=a.toNat_lt;simp[Nl];omega
 | [a,b],n,h0,h1,h=>by have:=a.toNat_lt;have:=b.toNat_lt;simp[Nl];omega
 | [a,b,c],n,h0,h1,h=>by have:=a.toNat_lt;have:=b.toNat_lt;have:=c.toNat_lt;simp[Nl];omega
 | [a,b,c,d],n,h0,h1,h=>by have:=a.toNat_lt;have:=b.toNat_lt;have:=c.toNat_lt;have:=d.toNat_lt;simp[Nl];omega
 | _::_::_::_::_::_,n,h0,h1,h=>by simp at h
theorem Zez:∀(s:List UInt8) (n:Int),0≤n→0≤Nl n s
 | [],n,h=>h
 | c::r,n,h=>Zez r _ (by omega)
theorem Zq1 {s:List UInt8} {n0:Int} (h0: -1≤n0) (h1:n0≤0) (hs:s.length≤4) (i:Nat): -1099511627776≤Nl n0 (s.take i)∧Nl n0 (s.take i)≤1099511627776:=Aw _ _ h0 h1 (by simp;omega)
theorem Zal:∀(s:List UInt8) (n:Int) (c:UInt8),Nl n (s++[c])=Nl n s*256+c.toNat
 | [],n,c=>rfl
 | a::r,n,c=>Zal r _ c
theorem I2 {s:List UInt8} {i:Nat} {c:UInt8} (h:s[i]? =some c):s.take (i+1)=s.take i++[c]:=by
 rw[List.take_add_one,h];rfl
theorem Zg2 {s:List UInt8} (hs:s.length≤4) {n0:Int} (h0: -1≤n0) (h1:n0≤0):∀(m i:Nat) (e:Env),i+m=s.length→Zb e 0= .str s→Zb e 3= .int .i64 (Nl n0 (s.take i))→Zb e 9= .int .i64 s.length→Zb e 10= .int .i64 i→
  Res (run T (.loop B.H3) e st) fun x e' s'=>x= .exit 0∧s'=st∧Zb e' 3= .int .i64 (Nl n0 s):=by
 intro m
 induction m with
 | zero=>
   intro i e hi g0 g3 g9 g10
   have hil:i=s.length:=by omega
   subst hil
   rw[List.take_length]at g3
   rw[Zn]
   simp[B.H3,go_sem,g0,g3,g9,g10]
 | succ m ih=>
   intro i e hi g0 g3 g9 g10
   have hil:i<s.length:=by omega
   have hil':(i:Int)<s.length:=by omega
   obtain⟨c,hc,hd⟩:=Z9 hil
   obtain⟨b0,b1⟩:=Zq1 h0 h1 hs i
   have hsn:=Zal (s.take i) n0 c
   rw[←I2 hc]at hsn
   have ih2:=fun e'=>ih (i+1) e' (by omega)
   rw[hsn]at ih2
   generalize Nl n0 (s.take i)=N at*
   have s1:=Zxm b0 b1
   have s2:=Zqd b0 b1 c.toNat_lt
   have ek:IntKind.i64.wrap ((i:Int)+1)=((i+1:Nat):Int):=Zf (by omega) (by omega)
   have wc:IntKind.i64.wrap (c.toNat:Int)=c.toNat:=Zf (by have:=c.toNat_lt;omega) (by have:=c.toNat_lt;omega)
   clear ih hil hi hd
   rw[Zn]
   simp[B.H3,go_sem,g0,g3,g9,g10,hil',hc,wc,s1,s2]
   exact ih2 _ (by simp[go_sem,g0]) (by simp[go_sem,s2]) (by simp[go_sem,g9]) (by simp[go_sem,ek])
theorem Zly (H:B.Fy T) (hwf:st.Wf) {s:List UInt8} (hs:s.length≤4) (h0:s≠[]):Qa T st (.fn 213 [] []) [.str s] (.int .i64 (Zey s)):=by
 refine Zs H.e H.f rfl ?_
 cases s with
 | nil=>exact absurd rfl h0
 | cons c r=>
   by_cases hc:128≤c.toNat
   ·have hc':(128:Int)≤c.toNat:=by omega
    simp[B.Nq,go_sem,hc,hc']
    refine(Zg2 (s:=c::r) hs (n0:= -1) (by omega) (by omega) (r.length+1) 0 _ (by simp) (by simp[go_sem]) (by simp[go_sem,Nl]) (by simp[go_sem]) (by simp[go_sem])).mono ?_
    rintro x e' s' ⟨rfl,rfl,h⟩
    simp[go_sem,h,Zey,hc,Ext.refl hwf]
   ·have hc':¬(128:Int)≤c.toNat:=by omega
    simp[B.Nq,go_sem,hc,hc']
    refine(Zg2 (s:=c::r) hs (n0:=0) (by omega) (by omega) (r.length+1) 0 _ (by simp) (by simp[go_sem]) (by simp[go_sem,Nl]) (by simp[go_sem]) (by simp[go_sem])).mono ?_
    rintro x e' s' ⟨rfl,rfl,h⟩
    simp[go_sem,h,Zey,hc,Ext.refl hwf]
theorem Zmh {s:List UInt8} (hs:s.length≤4):∀(m i:Nat) (e:Env),i+m=s.length→Zb e 0= .str s→Zb e 3= .int .i64 (Nl 0 (s.take i))→Zb e 4= .int .i64 i→
  Res (run T (.loop B.Un) e st) fun x e' s'=>x= .exit 0∧s'=st∧Zb e' 3= .int .i64 (Dm s):=by
 intro m
 induction m with
 | zero=>
   intro i e hi g0 g3 g4
   have hil:i=s.length:=by omega
   subst hil
   rw[List.take_length]at g3
   rw[Zn]
   simp[B.Un,go_sem,g0,g3,g4,Dm]
 | succ m ih=>
   intro i e hi g0 g3 g4
   have hil:i<s.length:=by omega
   have hil':(i:Int)<s.length:=by omega
   obtain⟨c,hc,hd⟩:=Z9 hil
   obtain⟨b0,b1⟩:=Zq1 (n0:=0) (by omega) (by omega) hs i
   have hsn:=Zal (s.take i) 0 c
   rw[←I2 hc]at hsn
   have ih2:=fun e'=>ih (i+1) e' (by omega)
   rw[hsn]at ih2
   generalize Nl 0 (s.take i)=N at*
   have cl:=c.toNat_lt
   have s1:IntKind.i64.wrap (N*256)=N*256:=Zf (by omega) (by omega)
   have s2:IntKind.i64.wrap (N*256+(c.toNat:Int))=N*256+c.toNat:=Zf (by omega) (by omega)
   have ek:IntKind.i64.wrap ((i:Int)+1)=((i+1:Nat):Int):=Zf (by omega) (by omega)
   have wc:IntKind.i64.wrap (c.toNat:Int)=c.toNat:=Zf (by omega) (by omega)
   clear ih hil hi hd
   rw[Zn]
   simp[B.Un,go_sem,g0,g3,g4,hil',hc,wc,s1,s2]
   exact ih2 _ (by simp[go_sem,g0]) (by simp[go_sem,s2]) (by simp[go_sem,ek])
theorem Zag (H:B.Wc T) (hwf:st.Wf) {s:List UInt8} (hs:s.length≤4):Qa T st (.fn 208 [] []) [.str s] (.int .i64 (Dm s)):=by
 refine Zs H.e H.f rfl ?_
 simp[B.Jy,go_sem]
 refine(Zmh hs s.length 0 _ (by simp) (by simp[go_sem]) (by simp[go_sem,Nl]) (by simp[go_sem])).mono ?_
 rintro x e' s' ⟨rfl,rfl,h⟩
 simp[go_sem,h,Ext.refl hwf]
theorem Zrt {s:List UInt8} (hs:s.length≤4) {v:AV}:∀(m i:Nat) (e:Env),i+m=s.length→Zb e 0= .str s→Zb e 3=v→Zb e 4= .int .i64 ((256 ^ i:Nat):Int)→Zb e 5= .int .i64 i→
  Res (run T (.loop B.W7) e st) fun x e' s'=>x= .exit 0∧s'=st∧Zb e' 3=v∧Zb e' 4= .int .i64 ((256 ^ s.length:Nat):Int):=by
 intro m
 induction m with
 | zero=>
   intro i e hi g0 g3 g4 g5
   have hil:i=s.length:=by omega
   subst hil
   generalize 256 ^ s.length=P at*
   rw[Zn]
   simp[B.W7,go_sem,g0,g3,g4,g5]
 | succ m ih=>
   intro i e hi g0 g3 g4 g5
   have hil':(i:Int)<s.length:=by omega
   have ih2:=fun e'=>ih (i+1) e' (by omega)
   have hp:256 ^ i≤256 ^ 4:=Nat.pow_le_pow_right (by omega) (by omega)
   rw[Nat.pow_succ]at ih2
   generalize 256 ^ s.length=P at*
   generalize 256 ^ i=p at*
   obtain⟨w,hw⟩:∃w:Int,w=((p*256:Nat):Int):=⟨_,rfl⟩
   have s1:IntKind.i64.wrap ((p:Int)*256)=w:=by rw[Zf (by omega) (by omega)];omega
   have ek:IntKind.i64.wrap ((i:Int)+1)=((i+1:Nat):Int):=Zf (by omega) (by omega)
   rw[←hw]at ih2
   clear ih hi hw hp
   rw[Zn]
   simp[B.W7,go_sem,g0,g3,g4,g5,hil',s1]
   exact ih2 _ (by simp[go_sem,g0]) (by simp[go_sem,g3]) (by simp[go_sem,s1]) (by simp[go_sem,ek])
theorem Zzx {s:List UInt8} (hs:s.length=1∨s.length=2∨s.length=4):∀L:Int,L=((256 ^ s.length:Nat):Int)→(L / 2≤Dm s→Zey s=Dm s - L)∧(¬L / 2≤Dm s→Zey s=Dm s):=
 by
 match s,hs with
 | [a],_=>
   have:=a.toNat_lt
   intro L hL
   have hL2:L=256:=by rw[hL];simp
   have hf:∀X:Int,Nl X [a]=(X*256+(a.toNat:Int)):=fun X=>rfl
   have hu:Dm [a]=(0*256+(a.toNat:Int)):=hf 0
   have h2:128≤a.toNat→Zey [a]=((-1)*256+(a.toNat:Int)):=fun h=>by show Nl (if 128≤a.toNat then -1 else 0) [a]=_;rw[if_pos h];exact hf _
   have h3:¬128≤a.toNat→Zey [a]=(0*256+(a.toNat:Int)):=fun h=>by show Nl (if 128≤a.toNat then -1 else 0) [a]=_;rw[if_neg h];exact hf _
   rw[hu]
   subst hL2
   clear hL hf hu
   by_cases h1:128≤a.toNat
   ·rw[h2 h1]
    omega
   ·rw[h3 h1]
    omega
 | [a,b],_=>
   have:=a.toNat_lt
   have:=b.toNat_lt
   intro L hL
   have hL2:L=65536:=by rw[hL];simp
   have hf:∀X:Int,Nl X [a,b]=((X*256+(a.toNat:Int))*256+(b.toNat:Int)):=fun X=>rfl
   have hu:Dm [a,b]=((0*256+(a.toNat:Int))*256+(b.toNat:Int)):=hf 0
   have h2:128≤a.toNat→Zey [a,b]=(((-1)*256+(a.toNat:Int))*256+(b.toNat:Int)):=fun h=>by show Nl (if 128≤a.toNat then -1 else 0) [a,b]=_;rw[if_pos h];exact hf _
   have h3:¬128≤a.toNat→Zey [a,b]=((0*256+(a.toNat:Int))*256+(b.toNat:Int)):=fun h=>by show Nl (if 128≤a.toNat then -1 else 0) [a,b]=_;rw[if_neg h];exact hf _
   rw[hu]
   subst hL2
   clear hL hf hu
   by_cases h1:128≤a.toNat
   ·rw[h2 h1]
    omega
   ·rw[h3 h1]
    omega
 | [a,b,c,d],_=>
   have:=a.toNat_lt
   have:=b.toNat_lt
   have:=c.toNat_lt
   have:=d.toNat_lt
   intro L hL
   have hL2:L=4294967296:=by rw[hL];simp
   have hf:∀X:Int,Nl X [a,b,c,d]=((((X*256+(a.toNat:Int))*256+(b.toNat:Int))*256+(c.toNat:Int))*256+(d.toNat:Int)):=fun X=>rfl
   have hu:Dm [a,b,c,d]=((((0*256+(a.toNat:Int))*256+(b.toNat:Int))*256+(c.toNat:Int))*256+(d.toNat:Int)):=hf 0
   have h2:128≤a.toNat→Zey [a,b,c,d]=(((((-1)*256+(a.toNat:Int))*256+(b.toNat:Int))*256+(c.toNat:Int))*256+(d.toNat:Int)):=fun h=>by show Nl (if 128≤a.toNat then -1 else 0) [a,b,c,d]=_;rw[if_pos h];exact hf _
   have h3:¬128≤a.toNat→Zey [a,b,c,d]=((((0*256+(a.toNat:Int))*256+(b.toNat:Int))*256+(c.toNat:Int))*256+(d.toNat:Int)):=fun h=>by show Nl (if 128≤a.toNat then -1 else 0) [a,b,c,d]=_;rw[if_neg h];exact hf _
   rw[hu]
   subst hL2
   clear hL hf hu
   by_cases h1:128≤a.toNat
   ·rw[h2 h1]
    omega
   ·rw[h3 h1]
    omega
theorem Zo8 (H:B.Rj T) (hwf:st.Wf) {s:List UInt8} (hs:s.length=1∨s.length=2∨s.length=4):Qa T st (.fn 207 [] []) [.str s] (.int .i64 (Zey s)):=by
 refine Zs H.e H.f rfl ?_
 simp[B.Vx,go_sem]
 refine(Zag H.Jy hwf (by omega)).use fun s1 x1=> ?_
 simp[go_sem]
 refine(Zrt (s:=s) (by omega) (v:= .int .i64 (Dm s)) s.length 0 _ (by simp) (by simp[go_sem]) (by simp[go_sem]) (by simp[go_sem]) (by simp[go_sem])).mono ?_
 rintro x e' s' ⟨rfl,rfl,g3,g4⟩
 have hb:=Aw s 0 (by omega) (by omega) (by omega)
 have hn:=Zez s 0 (by omega)
 have hL:256 ^ s.length≤256 ^ 4:=Nat.pow_le_pow_right (by omega) (by omega)
 obtain⟨L,hLe⟩:∃L:Nat,L=256 ^ s.length:=⟨_,rfl⟩
 have hq:=Zzx hs (L:Int) (by rw[hLe])
 rw[←hLe]at g4 hL
 have w1:(L:Int).tdiv 2=(L:Int) / 2:=Int.tdiv_eq_ediv_of_nonneg (by omega)
 obtain⟨h,hh⟩:∃h:Int,h=(L:Int) / 2:=⟨_,rfl⟩
 rw[←hh]at w1 hq
 have w2:IntKind.i64.wrap h=h:=Zf (by omega) (by omega)
 change _≤Dm s∧Dm s≤_ at hb
 change 0≤Dm s at hn
 generalize Dm s=N at*
 have w3:IntKind.i64.wrap (N - (L:Int))=N - L:=Zf (by omega) (by omega)
 by_cases hc:h≤N
 ·rw[hq.1 hc]
  simp[go_sem,g3,g4,w1,w2,w3,hc,x1]
 ·rw[hq.2 hc]
  simp[go_sem,g3,g4,w1,w2,w3,hc,x1]
end Go.Ev
