/- The abstract bodies of the functions, printed by a program of this work. -/
import Derived.Test.YtcjbjemfobdkgaaGreatDoorP05
namespace Go.Ev.B
open Go
def chaselaw09_FilterChecks_l0 : MCode := (.seq (.keep [30, 31]) (.seq (.reg [p 32 (.bin .lss 31 (.k (.int .i64 5)))]) (.seq (.cond 32 .skip (.exit 0)) (.seq (.block 1 (.seq (.reg [p 
  33 (.idxA 5 4 (some 4) 30 31), n 10 (.alloc 325 true [(.str []), (.int .i64 0), (.int .i64 0), (.int .i64 0)]), w0 (.store 4 10 33)]) (.seq (.regd [.op 0 (r 34 (.load (some 4) 10)), 
  .op 2 (r 36 (.load (some 4) 10)), .op 1 (w 35 (.call (.k (.fn 230 [] [])) [34])), .re 2, .op 3 (w 37 (.call (.k (.fn 231 [] [])) [36])), .op 4 (p 38 (.bin .eql 37 (.k (.int .i64 0)))), 
  .op 5 (p 39 (.eqB true 35 38)), .op 6 (p 40 (.mov 39)), .op 7 (rg 41 40 false (.load (some 4) 10)), .op 8 (wg 42 40 false (.call (.k (.fn 231 [] [])) [41])), .op 9 (pg 43 40 false (.bin 
  .neq 42 (.k (.int .i64 0)))), .op 10 (pg 44 40 false (.mov 43)), .op 11 (rg 45 44 true (.load (some 4) 10)), .op 12 (wg 46 44 true (.call (.k (.fn 231 [] [])) [45])), .op 13 (pg 47 
  44 true (.bin .neq 46 (.k (.int .i64 190)))), .op 14 (pg 48 40 false (.pick 44 47 (.k (.bool false)))), .op 15 (p 49 (.pick 40 (.k (.bool true)) 48))]) (.seq (.keep [30, 31, 49]) (.cond 
  49 (.seq (.reg [p 6 (.mov (.k (.bool false)))]) .ret) .skip))))) (.seq (.keep [30, 31]) (.reg [p 50 (.bin .add 31 (.k (.int .i64 1))), p 31 (.mov 50)]))))))
def chaselaw09_FilterChecks : MFun := ⟨3, [.t 6], (.seq (.reg [n 3 (.box 325 true 0), n 4 (.box 327 true 1), p 6 (.mov (.k (.bool false)))]) (.seq (.seq (.reg [w 11 (.call (.k (.fn 
  228 [] [])) []), p 12 (.un .not 11)]) (.cond 12 (.seq (.reg [p 6 (.mov (.k (.bool false)))]) .ret) .skip)) (.seq (.reg [r 13 (.load (some 4) 4), w 14 (.call (.k (.fn 229 [] [])) [13]), 
  n 7 (.alloc 325 true [(.str []), (.int .i64 0), (.int .i64 0), (.int .i64 0)]), w0 (.store 4 7 14)]) (.seq (.reg [r 15 (.load (some 4) 3), r 16 (.load (some 4) 7), r 17 (.load (some 
  4) 7), r 18 (.load (some 4) 7), r 19 (.load (some 4) 7), p 20 (.build [(.str []), (.int .i64 0), (.int .i64 0), (.int .i64 0), (.str []), (.int .i64 0), (.int .i64 0), (.int .i64 0), 
  (.str []), (.int .i64 0), (.int .i64 0), (.int .i64 0), (.str []), (.int .i64 0), (.int .i64 0), (.int .i64 0), (.str []), (.int .i64 0), (.int .i64 0), (.int .i64 0)] [(0, 4, 15), 
  (4, 4, 16), (8, 4, 17), (12, 4, 18), (16, 4, 19)]), n 8 (.alloc 329 true [(.str []), (.int .i64 0), (.int .i64 0), (.int .i64 0), (.str []), (.int .i64 0), (.int .i64 0), (.int .i64 
  0), (.str []), (.int .i64 0), (.int .i64 0), (.int .i64 0), (.str []), (.int .i64 0), (.int .i64 0), (.int .i64 0), (.str []), (.int .i64 0), (.int .i64 0), (.int .i64 0)]), w0 (.store 
  20 8 20)]) (.seq (.keep [2, 8]) (.seq (.reg [p 21 (.mov 2), p 22 (.mov 2), p 23 (.mov 2), p 24 (.iaddrA 5 4 8 (.k (.int .i64 2))), p 25 (.faddr 1 24), w0 (.store 1 25 21), p 26 (.iaddrA 
  5 4 8 (.k (.int .i64 3))), p 27 (.faddr 2 26), w0 (.store 1 27 22), p 28 (.iaddrA 5 4 8 (.k (.int .i64 4))), p 29 (.faddr 3 28), w0 (.store 1 29 23)]) (.seq (.keep [8]) (.seq (.seq 
  (.reg [r 30 (.load (some 20) 8), p 31 (.mov (.k (.int .i64 0)))]) (.block 0 (.loop chaselaw09_FilterChecks_l0))) (.seq (.keep []) (.seq (.reg [p 6 (.mov (.k (.bool true)))]) .ret))))))))))⟩

def chaselaw09_works_l0 : MCode := (.seq (.keep [1, 4, 5, 6, 7, 8, 9, 10, 11, 13, 15, 17, 73, 74]) (.seq (.reg [p 75 (.bin .lss 74 (.k (.int .i64 3)))]) (.seq (.cond 75 .skip (.exit 
  0)) (.seq (.block 1 (.seq (.reg [p 76 (.idxA 3 4 (some 4) 73 74), n 19 (.alloc 325 true [(.str []), (.int .i64 0), (.int .i64 0), (.int .i64 0)]), w0 (.store 4 19 76)]) (.seq (.reg 
  [r 77 (.load (some 4) 19), w 78 (.call (.k (.fn 231 [] [])) [77]), p 79 (.bin .neq 78 (.k (.int .i64 190)))]) (.cond 79 (.seq (.reg [p 0 (.mov (.k (.bool false)))]) .ret) .skip)))) 
  (.reg [p 80 (.bin .add 74 (.k (.int .i64 1))), p 74 (.mov 80)])))))
def chaselaw09_works : MFun := ⟨0, [.t 0], (.seq (.reg [p 0 (.mov (.k (.bool false)))]) (.seq (.reg [p 21 (.build [(.str []), (.int .i64 0), (.int .i64 0), (.int .i64 0)] [(0, 1, (.k 
  (.str [104, 101, 120])))]), p 22 (.build [(.str []), (.int .i64 0), (.int .i64 0), (.int .i64 0)] [(0, 1, (.k (.str [114, 117, 110, 115])))]), n 1 (.alloc 325 true [(.str []), (.int 
  .i64 0), (.int .i64 0), (.int .i64 0)]), n 2 (.alloc 325 true [(.str []), (.int .i64 0), (.int .i64 0), (.int .i64 0)]), w0 (.store 4 1 21), w0 (.store 4 2 22)]) (.seq (.reg [r 23 (.load 
  (some 4) 1), r 24 (.load (some 4) 2), n 25 (.buildSl 325 2 [(.str []), (.int .i64 0), (.int .i64 0), (.int .i64 0), (.str []), (.int .i64 0), (.int .i64 0), (.int .i64 0)] [(0, 4, 23), 
  (4, 4, 24)]), p 3 (.mov 25)]) (.seq (.reg [p 27 (.mov 3), w 28 (.call (.k (.fn 232 [] [])) [27, (.k (.str [97, 97, 97, 97]))]), p 26 (.mov 28), p 29 (.extr 0 26), p 30 (.extr 1 26), 
  p 4 (.mov 29), p 5 (.mov 30)]) (.seq (.reg [p 32 (.mov 3), p 33 (.mov 4), w 34 (.call (.k (.fn 233 [] [])) [32, 33]), p 31 (.mov 34), p 35 (.extr 0 31), p 36 (.extr 1 31), p 6 (.mov 
  35), p 7 (.mov 36)]) (.seq (.keep [1, 4, 5, 6, 7]) (.seq (.reg [w 38 (.call (.k (.fn 232 [] [])) [(.k .nilslice), (.k (.str [97]))]), p 37 (.mov 38), p 39 (.extr 0 37), p 40 (.extr 
  1 37), p 8 (.mov 39), p 9 (.mov 40)]) (.seq (.reg [r 42 (.load (some 4) 1), n 43 (.buildSl 325 1 [(.str []), (.int .i64 0), (.int .i64 0), (.int .i64 0)] [(0, 4, 42)]), w 44 (.call 
  (.k (.fn 233 [] [])) [43, (.k (.str [54, 49, 62, 122, 122]))]), p 41 (.mov 44), p 45 (.extr 0 41), p 46 (.extr 1 41), p 10 (.mov 45), p 11 (.mov 46)]) (.seq (.keep [1, 4, 5, 6, 7, 8, 
  9, 10, 11]) (.seq (.reg [r 48 (.load (some 4) 1), r 49 (.load (some 4) 1), n 50 (.buildSl 325 2 [(.str []), (.int .i64 0), (.int .i64 0), (.int .i64 0), (.str []), (.int .i64 0), (.int 
  .i64 0), (.int .i64 0)] [(0, 4, 48), (4, 4, 49)]), w 51 (.call (.k (.fn 233 [] [])) [50, (.k (.str [54, 49, 62]))]), p 47 (.mov 51), p 52 (.extr 0 47), p 53 (.extr 1 47), p 12 (.mov 
  52), p 13 (.mov 53)]) (.seq (.keep [1, 4, 5, 6, 7, 8, 9, 10, 11, 13]) (.seq (.reg [r 55 (.load (some 4) 1), r 56 (.load (some 4) 1), r 57 (.load (some 4) 1), r 58 (.load (some 4) 1), 
  r 59 (.load (some 4) 1), n 60 (.buildSl 325 5 [(.str []), (.int .i64 0), (.int .i64 0), (.int .i64 0), (.str []), (.int .i64 0), (.int .i64 0), (.int .i64 0), (.str []), (.int .i64 
  0), (.int .i64 0), (.int .i64 0), (.str []), (.int .i64 0), (.int .i64 0), (.int .i64 0), (.str []), (.int .i64 0), (.int .i64 0), (.int .i64 0)] [(0, 4, 55), (4, 4, 56), (8, 4, 57), 
  (12, 4, 58), (16, 4, 59)]), w 61 (.call (.k (.fn 233 [] [])) [60, (.k (.str []))]), p 54 (.mov 61), p 62 (.extr 0 54), p 63 (.extr 1 54), p 14 (.mov 62), p 15 (.mov 63)]) (.seq (.keep 
  [1, 4, 5, 6, 7, 8, 9, 10, 11, 13, 15]) (.seq (.reg [p 65 (.build [(.str []), (.int .i64 0), (.int .i64 0), (.int .i64 0)] [(0, 1, (.k (.str [102, 97, 120]))), (1, 1, (.k (.int .i64 
  7)))]), n 66 (.buildSl 325 1 [(.str []), (.int .i64 0), (.int .i64 0), (.int .i64 0)] [(0, 4, 65)]), w 67 (.call (.k (.fn 232 [] [])) [66, (.k (.str [1]))]), p 64 (.mov 67), p 68 (.extr 
  0 64), p 69 (.extr 1 64), p 16 (.mov 68), p 17 (.mov 69)]) (.seq (.keep [1, 4, 5, 6, 7, 8, 9, 10, 11, 13, 15, 17]) (.seq (.seq (.reg [p 70 (.build [(.str []), (.int .i64 0), (.int .i64 
  0), (.int .i64 0)] [(0, 1, (.k (.str [104, 101, 120]))), (1, 1, (.k (.int .i64 1)))]), p 71 (.build [(.str []), (.int .i64 0), (.int .i64 0), (.int .i64 0)] [(0, 1, (.k (.str [102, 
  97, 120]))), (1, 1, (.k (.int .i64 129)))]), p 72 (.build [(.str []), (.int .i64 0), (.int .i64 0), (.int .i64 0)] [(0, 1, (.k (.str [122, 105, 112])))]), p 73 (.build [(.str []), (.int 
  .i64 0), (.int .i64 0), (.int .i64 0), (.str []), (.int .i64 0), (.int .i64 0), (.int .i64 0), (.str []), (.int .i64 0), (.int .i64 0), (.int .i64 0)] [(0, 4, 70), (4, 4, 71), (8, 4, 
  72)]), p 74 (.mov (.k (.int .i64 0)))]) (.block 0 (.loop chaselaw09_works_l0))) (.seq (.keep [1, 4, 5, 6, 7, 8, 9, 10, 11, 13, 15, 17]) (.seq (.reg [p 81 (.mov 5), p 82 (.bin .eql 81 
  (.k (.int .i64 0))), p 83 (.mov 82), pg 84 83 true (.mov 7), pg 85 83 true (.bin .eql 84 (.k (.int .i64 0))), p 86 (.pick 83 85 (.k (.bool false))), p 87 (.mov 86), pg 88 87 true (.mov 
  9), pg 89 87 true (.bin .eql 88 (.k (.int .i64 0))), p 90 (.pick 87 89 (.k (.bool false))), p 91 (.mov 90), pg 92 91 true (.mov 11), pg 93 91 true (.bin .eql 92 (.k (.int .i64 0))), 
  p 94 (.pick 91 93 (.k (.bool false))), p 95 (.mov 94), pg 96 95 true (.mov 13), pg 97 95 true (.bin .eql 96 (.k (.int .i64 5))), p 98 (.pick 95 97 (.k (.bool false))), p 99 (.mov 98), 
  pg 100 99 true (.mov 15), pg 101 99 true (.bin .eql 100 (.k (.int .i64 3))), p 102 (.pick 99 101 (.k (.bool false))), p 103 (.mov 102), pg 104 103 true (.mov 17), pg 105 103 true (.bin 
  .eql 104 (.k (.int .i64 170))), p 106 (.pick 103 105 (.k (.bool false))), p 20 (.mov 106)]) (.seq (.keep [1, 4, 6, 8, 10, 20]) (.seq (.reg [p 107 (.mov 20), p 108 (.mov 107), pg 109 
  108 true (.mov 4), pg 110 108 true (.bin .eql 109 (.k (.str [70, 68, 54, 49, 56, 48, 62]))), p 111 (.pick 108 110 (.k (.bool false))), p 112 (.mov 111), pg 113 112 true (.mov 6), pg 
  114 112 true (.bin .eql 113 (.k (.str [97, 97, 97, 97]))), p 115 (.pick 112 114 (.k (.bool false))), p 116 (.mov 115), pg 117 116 true (.mov 8), pg 118 116 true (.bin .eql 117 (.k (.str 
  [97]))), p 119 (.pick 116 118 (.k (.bool false))), p 120 (.mov 119), pg 121 120 true (.mov 10), pg 122 120 true (.bin .eql 121 (.k (.str [97]))), p 123 (.pick 120 122 (.k (.bool false))), 
  p 124 (.mov 123), rg 125 124 true (.load (some 4) 1), wg 126 124 true (.call (.k (.fn 231 [] [])) [125]), pg 127 124 true (.bin .eql 126 (.k (.int .i64 0))), p 128 (.pick 124 127 (.k 
  (.bool false))), p 129 (.mov 128), p 130 (.pick 129 (.k (.bool true)) (.k (.bool false))), p 131 (.mov 130), p 132 (.pick 131 (.k (.bool true)) (.k (.bool false))), p 0 (.mov 132)]) 
  .ret))))))))))))))))))))⟩

def chaseref09_Draft_Filter : MFun := ⟨1, [.cell 2 (some 4)], (.seq (.reg [n 1 (.box 327 true 0), n 2 (.alloc 325 true [(.str []), (.int .i64 0), (.int .i64 0), (.int .i64 0)])]) (.seq 
  (.reg [p 4 (.build [(.str []), (.str []), (.str []), (.str []), (.str []), (.str [])] [(0, 1, (.k (.str [104, 101, 120]))), (1, 1, (.k (.str [98, 97, 115, 101, 56, 53]))), (2, 1, (.k 
  (.str [114, 117, 110, 115]))), (3, 1, (.k (.str [108, 122, 119]))), (4, 1, (.k (.str [102, 97, 120]))), (5, 1, (.k (.str [99, 111, 115, 105, 110, 101])))]), p 5 (.faddr 0 1), r 6 (.load 
  none 5), p 7 (.bin .rem 6 (.k (.int .u8 6))), p 8 (.idxA 6 1 none 4 7), p 9 (.build [(.str []), (.int .i64 0), (.int .i64 0), (.int .i64 0)] [(0, 1, 8)]), n 3 (.alloc 325 true [(.str 
  []), (.int .i64 0), (.int .i64 0), (.int .i64 0)]), w0 (.store 4 3 9)]) (.seq (.keep [1, 2, 3]) (.seq (.seq (.reg [p 10 (.faddr 0 3), r 11 (.load none 10), p 12 (.bin .eql 11 (.k (.str 
  [102, 97, 120])))]) (.cond 12 (.reg [p 13 (.faddr 1 1), r 14 (.load none 13), p 15 (.bin .rem 14 (.k (.int .u8 128))), p 16 (.conv .i64 15), p 17 (.bin .add (.k (.int .i64 1)) 16), 
  p 18 (.faddr 1 3), w0 (.store 1 18 17)]) .skip)) (.seq (.keep [1, 2, 3]) (.seq (.seq (.reg [p 19 (.faddr 0 3), r 20 (.load none 19), p 21 (.bin .eql 20 (.k (.str [99, 111, 115, 105, 
  110, 101])))]) (.cond 21 (.seq (.reg [p 22 (.faddr 1 1), r 23 (.load none 22), p 24 (.bin .rem 23 (.k (.int .u8 16))), p 25 (.conv .i64 24), p 26 (.bin .add (.k (.int .i64 1)) 25), 
  p 27 (.faddr 1 3), w0 (.store 1 27 26)]) (.seq (.reg [p 28 (.faddr 2 1), r 29 (.load none 28), p 30 (.bin .rem 29 (.k (.int .u8 16))), p 31 (.conv .i64 30), p 32 (.bin .add (.k (.int 
  .i64 1)) 31), p 33 (.faddr 2 3), w0 (.store 1 33 32)]) (.reg [p 34 (.faddr 3 1), r 35 (.load none 34), p 36 (.bin .rem 35 (.k (.int .u8 255))), p 37 (.conv .i64 36), p 38 (.bin .add 
  (.k (.int .i64 1)) 37), p 39 (.faddr 3 3), w0 (.store 1 39 38)]))) .skip)) (.seq (.keep [2, 3]) (.seq (.reg [r 40 (.load (some 4) 3), w0 (.store 4 2 40)]) .ret))))))))⟩

def chaseref09_Right : MFun := ⟨1, [.t 2], (.seq (.reg [n 1 (.box 325 true 0), p 2 (.mov (.k (.bool false)))]) (.seq (.seq (.reg [p 3 (.faddr 0 1), r 4 (.load none 3)]) (.block 0 (.seq 
  (.seq (.reg [p 6 (.bin .eql 4 (.k (.str [104, 101, 120]))), p 5 (.mov 6)]) (.cond 5 .skip (.seq (.reg [p 7 (.bin .eql 4 (.k (.str [98, 97, 115, 101, 56, 53]))), p 5 (.mov 7)]) (.cond 
  5 .skip (.seq (.reg [p 8 (.bin .eql 4 (.k (.str [114, 117, 110, 115]))), p 5 (.mov 8)]) (.cond 5 .skip (.reg [p 9 (.bin .eql 4 (.k (.str [108, 122, 119]))), p 5 (.mov 9)]))))))) (.seq 
  (.keep [1, 4, 5]) (.cond 5 (.seq (.reg [p 10 (.faddr 1 1), r 11 (.load none 10), p 12 (.bin .eql 11 (.k (.int .i64 0))), p 13 (.mov 12), pg 14 13 true (.faddr 2 1), rg 15 13 true (.load 
  none 14), pg 16 13 true (.bin .eql 15 (.k (.int .i64 0))), p 17 (.pick 13 16 (.k (.bool false))), p 18 (.mov 17), pg 19 18 true (.faddr 3 1), rg 20 18 true (.load none 19), pg 21 18 
  true (.bin .eql 20 (.k (.int .i64 0))), p 22 (.pick 18 21 (.k (.bool false))), p 2 (.mov 22)]) .ret) (.seq (.reg [p 24 (.bin .eql 4 (.k (.str [102, 97, 120]))), p 23 (.mov 24)]) (.cond 
  23 (.seq (.reg [p 25 (.faddr 1 1), r 26 (.load none 25), p 27 (.bin .geq 26 (.k (.int .i64 1))), p 28 (.mov 27), pg 29 28 true (.faddr 1 1), rg 30 28 true (.load none 29), pg 31 28 
  true (.bin .leq 30 (.k (.int .i64 128))), p 32 (.pick 28 31 (.k (.bool false))), p 33 (.mov 32), pg 34 33 true (.faddr 2 1), rg 35 33 true (.load none 34), pg 36 33 true (.bin .eql 
  35 (.k (.int .i64 0))), p 37 (.pick 33 36 (.k (.bool false))), p 38 (.mov 37), pg 39 38 true (.faddr 3 1), rg 40 38 true (.load none 39), pg 41 38 true (.bin .eql 40 (.k (.int .i64 
  0))), p 42 (.pick 38 41 (.k (.bool false))), p 2 (.mov 42)]) .ret) (.seq (.reg [p 44 (.bin .eql 4 (.k (.str [99, 111, 115, 105, 110, 101]))), p 43 (.mov 44)]) (.cond 43 (.seq (.reg 
  [p 45 (.faddr 1 1), r 46 (.load none 45), p 47 (.bin .geq 46 (.k (.int .i64 1))), p 48 (.mov 47), pg 49 48 true (.faddr 1 1), rg 50 48 true (.load none 49), pg 51 48 true (.bin .leq 
  50 (.k (.int .i64 128))), p 52 (.pick 48 51 (.k (.bool false))), p 53 (.mov 52), pg 54 53 true (.faddr 2 1), rg 55 53 true (.load none 54), pg 56 53 true (.bin .geq 55 (.k (.int .i64 
  1))), p 57 (.pick 53 56 (.k (.bool false))), p 58 (.mov 57), pg 59 58 true (.faddr 2 1), rg 60 58 true (.load none 59), pg 61 58 true (.bin .leq 60 (.k (.int .i64 128))), p 62 (.pick 
  58 61 (.k (.bool false))), p 63 (.mov 62), pg 64 63 true (.faddr 3 1), rg 65 63 true (.load none 64), pg 66 63 true (.bin .geq 65 (.k (.int .i64 1))), p 67 (.pick 63 66 (.k (.bool false))), 
  p 68 (.mov 67), pg 69 68 true (.faddr 3 1), rg 70 68 true (.load none 69), pg 71 68 true (.bin .leq 70 (.k (.int .i64 255))), p 72 (.pick 68 71 (.k (.bool false))), p 2 (.mov 72)]) 
  .ret) .skip))))))))) (.seq (.keep []) (.seq (.reg [p 2 (.mov (.k (.bool false)))]) .ret))))⟩

def filter_Check : MFun := ⟨1, [.t 2], (.seq (.reg [n 1 (.box 325 true 0), p 2 (.mov (.k (.int .i64 0)))]) (.seq (.seq (.reg [r 6 (.load (some 4) 1), w 7 (.call (.k (.fn 234 [] [])) 
  [6]), p 5 (.mov 7), p 8 (.extr 0 5), p 9 (.extr 1 5), p 3 (.mov 8), p 4 (.mov 9)]) (.seq (.reg [p 10 (.mov 4), p 11 (.un .not 10)]) (.cond 11 (.seq (.reg [p 2 (.mov (.k (.int .i64 190)))]) 
  .ret) .skip))) (.seq (.keep []) (.seq (.reg [p 2 (.mov (.k (.int .i64 0)))]) .ret))))⟩

def filter_Encode_l0 : MCode := (.block 1 (.regd [.op 0 (r 24 (.load none 8)), .op 1 (p 25 (.mov 10)), .op 2 (p 26 (.nilck 25)), .op 3 (p 27 (.faddr 4 26)), .op 4 (r 28 (.load none 
  27)), .op 5 (n 29 (.buildSl 315 1 [.nilfn] [(0, 1, 28)])), .op 6 (w 30 (.append 315 1 8 [.nilfn] 24 29)), .op 7 (w0 (.store 1 8 30))]))
def filter_Encode : MFun := ⟨2, [.t 4, .t 5], (.seq (.reg [p 4 (.mov (.k (.str []))), p 5 (.mov (.k (.int .i64 0)))]) (.seq (.reg [p 12 (.mov 0), p 13 (.mov 1), w 14 (.call (.k (.fn 
  235 [] [])) [12, 13]), p 11 (.mov 14), p 15 (.extr 0 11), p 16 (.extr 1 11), p 6 (.mov 15), p 7 (.mov 16)]) (.seq (.keep [1, 4, 5, 6, 7]) (.seq (.seq (.reg [p 17 (.mov 7), p 18 (.bin 
  .neq 17 (.k (.int .i64 0)))]) (.cond 18 (.seq (.reg [p 19 (.mov 7), p 4 (.mov (.k (.str []))), p 5 (.mov 19)]) .ret) .skip)) (.seq (.reg [n 8 (.alloc 356 true [.nilslice])]) (.seq (.seq 
  (.reg [p 20 (.mov 6), w 21 (.call (.k (.fn 236 [] [])) [20])]) (.block 0 (.rangeFunc 21 [22, 23] (.reg [p 10 (.mov 23)]) filter_Encode_l0))) (.seq (.keep [1, 8]) (.seq (.reg [r 31 (.load 
  none 8), p 32 (.mov 1), w 33 (.call (.k (.fn 237 [] [])) [31, 32]), p 34 (.extr 0 33), p 35 (.extr 1 33), p 4 (.mov 34), p 5 (.mov 35)]) .ret))))))))⟩

def filter_Decode_l0 : MCode := (.seq (.keep [1, 8, 20, 21, 22]) (.seq (.reg [p 23 (.bin .lss 22 21)]) (.seq (.cond 23 .skip (.exit 0)) (.seq (.block 1 (.seq (.reg [p 24 (.iaddrS 1 
  20 22), r 25 (.load none 24), n 10 (.alloc 348 false [.nilptr]), w0 (.store 1 10 25)]) (.reg [p 26 (.mov 8), p 27 (.mkfn 238 [] [10]), n 28 (.buildSl 315 1 [.nilfn] [(0, 1, 27)]), w 
  29 (.append 315 1 8 [.nilfn] 26 28), p 8 (.mov 29)]))) (.seq (.keep [1, 8, 20, 21, 22]) (.reg [p 30 (.bin .add 22 (.k (.int .i64 1))), p 22 (.mov 30)]))))))
def filter_Decode : MFun := ⟨2, [.t 4, .t 5], (.seq (.reg [p 4 (.mov (.k (.str []))), p 5 (.mov (.k (.int .i64 0)))]) (.seq (.reg [p 12 (.mov 0), p 13 (.mov 1), w 14 (.call (.k (.fn 
  235 [] [])) [12, 13]), p 11 (.mov 14), p 15 (.extr 0 11), p 16 (.extr 1 11), p 6 (.mov 15), p 7 (.mov 16)]) (.seq (.keep [1, 6, 7]) (.seq (.seq (.reg [p 17 (.mov 7), p 18 (.bin .neq 
  17 (.k (.int .i64 0)))]) (.cond 18 (.seq (.reg [p 19 (.mov 7), p 4 (.mov (.k (.str []))), p 5 (.mov 19)]) .ret) .skip)) (.seq (.reg [p 8 (.mov (.k .nilslice))]) (.seq (.seq (.reg [p 
  20 (.mov 6), p 21 (.lenOf false 20), p 22 (.mov (.k (.int .i64 0)))]) (.block 0 (.loop filter_Decode_l0))) (.seq (.keep [1, 8]) (.seq (.reg [p 31 (.mov 8), p 32 (.mov 1), w 33 (.call 
  (.k (.fn 237 [] [])) [31, 32]), p 34 (.extr 0 33), p 35 (.extr 1 33), p 4 (.mov 34), p 5 (.mov 35)]) .ret))))))))⟩

def filter_of : MFun := ⟨1, [.t 2, .t 3], (.seq (.reg [n 1 (.box 325 true 0), p 2 (.mov (.k .nilptr)), p 3 (.mov (.k (.bool false)))]) (.seq (.reg [r 7 (.load (some 4) 1), p 8 (.build 
  [(.str []), (.int .i64 0), (.int .i64 0), (.int .i64 0), .nilfn, .nilfn] [(0, 4, 7)]), n 9 (.box 358 false 8), p 4 (.mov 9)]) (.seq (.regd [.op 1 (p 12 (.faddr 0 1)), .op 2 (r 13 (.load 
  none 12)), .op 0 (w 11 (.call (.k (.fn 239 [] [])) [])), .re 2, .op 3 (r 14 (.lookup .s .nilfn true 11 13)), .op 4 (p 10 (.mov 14)), .op 5 (p 15 (.extr 0 10)), .op 6 (p 16 (.extr 1 
  10)), .op 7 (p 5 (.mov 15)), .op 8 (p 6 (.mov 16))]) (.seq (.keep [4, 5, 6]) (.seq (.reg [p 17 (.mov 4), p 18 (.mov 6), p 19 (.mov 18), pg 20 19 true (.mov 5), pg 21 19 true (.mov 4), 
  wg 22 19 true (.call 20 [21]), p 23 (.pick 19 22 (.k (.bool false))), p 2 (.mov 17), p 3 (.mov 23)]) .ret)))))⟩

def filter_all_l0 : MCode := (.seq (.keep [1, 6, 14, 15, 16]) (.seq (.reg [p 17 (.bin .lss 16 15)]) (.seq (.cond 17 .skip (.exit 0)) (.seq (.block 1 (.seq (.reg [p 18 (.iaddrS 4 14 
  16), r 19 (.load (some 4) 18), n 8 (.alloc 325 true [(.str []), (.int .i64 0), (.int .i64 0), (.int .i64 0)]), w0 (.store 4 8 19)]) (.seq (.reg [r 21 (.load (some 4) 8), w 22 (.call 
  (.k (.fn 234 [] [])) [21]), p 20 (.mov 22), p 23 (.extr 0 20), p 24 (.extr 1 20), p 9 (.mov 23), p 10 (.mov 24)]) (.seq (.seq (.reg [p 25 (.mov 10), p 26 (.un .not 25)]) (.cond 26 (.seq 
  (.reg [p 4 (.mov (.k .nilslice)), p 5 (.mov (.k (.int .i64 190)))]) .ret) .skip)) (.reg [p 27 (.mov 6), p 28 (.mov 9), n 29 (.buildSl 348 1 [.nilptr] [(0, 1, 28)]), w 30 (.append 348 
  1 8 [.nilptr] 27 29), p 6 (.mov 30)]))))) (.seq (.keep [1, 6, 14, 15, 16]) (.reg [p 31 (.bin .add 16 (.k (.int .i64 1))), p 16 (.mov 31)]))))))
def filter_all : MFun := ⟨2, [.t 4, .t 5], (.seq (.reg [p 4 (.mov (.k .nilslice)), p 5 (.mov (.k (.int .i64 0)))]) (.seq (.seq (.reg [p 11 (.mov 0), p 12 (.lenOf false 11), p 13 (.bin 
  .gtr 12 (.k (.int .i64 4)))]) (.cond 13 (.seq (.reg [p 4 (.mov (.k .nilslice)), p 5 (.mov (.k (.int .i64 3)))]) .ret) .skip)) (.seq (.reg [p 6 (.mov (.k .nilslice))]) (.seq (.seq (.reg 
  [p 14 (.mov 0), p 15 (.lenOf false 14), p 16 (.mov (.k (.int .i64 0)))]) (.block 0 (.loop filter_all_l0))) (.seq (.keep [1, 6]) (.seq (.seq (.reg [p 32 (.mov 1), p 33 (.lenOf true 32), 
  p 34 (.bin .gtr 33 (.k (.int .i64 65536)))]) (.cond 34 (.seq (.reg [p 4 (.mov (.k .nilslice)), p 5 (.mov (.k (.int .i64 3)))]) .ret) .skip)) (.seq (.reg [p 35 (.mov 6), p 4 (.mov 35), 
  p 5 (.mov (.k (.int .i64 0)))]) .ret)))))))⟩

def slices_Backward_filter_coding_filter_coding : MFun := ⟨1, [.t 2], (.seq (.reg [n 1 (.box 353 false 0), p 2 (.mov (.k .nilfn))]) (.seq (.reg [p 3 (.mkfn 240 [] [1]), p 2 (.mov 3)]) 
  .ret))⟩

def filter_apply_string_l0 : MCode := (.seq (.keep [1, 10, 11, 12]) (.seq (.reg [p 13 (.bin .lss 12 11)]) (.seq (.cond 13 .skip (.exit 0)) (.seq (.block 1 (.seq (.reg [p 14 (.iaddrS 
  1 10 12), r 15 (.load none 14), p 7 (.mov 15)]) (.seq (.reg [p 17 (.mov 7), p 18 (.mov 1), w 19 (.call 17 [18]), p 16 (.mov 19), p 20 (.extr 0 16), p 21 (.extr 1 16), p 8 (.mov 20), 
  p 9 (.mov 21)]) (.seq (.keep [8, 9, 10, 11, 12]) (.seq (.seq (.reg [p 22 (.mov 9), p 23 (.bin .neq 22 (.k (.int .i64 0)))]) (.cond 23 (.seq (.reg [p 24 (.mov 9), p 4 (.mov (.k (.str 
  []))), p 5 (.mov 24)]) .ret) .skip)) (.reg [p 25 (.mov 8), p 1 (.mov 25)])))))) (.seq (.keep [1, 10, 11, 12]) (.reg [p 26 (.bin .add 12 (.k (.int .i64 1))), p 12 (.mov 26)]))))))
def filter_apply_string : MFun := ⟨2, [.t 4, .t 5], (.seq (.reg [p 4 (.mov (.k (.str []))), p 5 (.mov (.k (.int .i64 0)))]) (.seq (.seq (.reg [p 10 (.mov 0), p 11 (.lenOf false 10), 
  p 12 (.mov (.k (.int .i64 0)))]) (.block 0 (.loop filter_apply_string_l0))) (.seq (.keep [1]) (.seq (.reg [p 27 (.mov 1), p 4 (.mov 27), p 5 (.mov (.k (.int .i64 0)))]) .ret))))⟩

def filter_Decode_1 : MFun := ⟨2, [.t 3, .t 4], (.seq (.reg [p 3 (.mov (.k (.str []))), p 4 (.mov (.k (.int .i64 0)))]) (.seq (.reg [r 9 (.load none 1), p 10 (.nilck 9), p 11 (.faddr 
  5 10), r 12 (.load none 11), p 13 (.mov 0), w 14 (.call 12 [13]), p 8 (.mov 14), p 15 (.extr 0 8), p 16 (.extr 1 8), p 17 (.extr 2 8), p 5 (.mov 15), p 6 (.mov 16), p 7 (.mov 17)]) 
  (.seq (.keep [5, 7]) (.seq (.reg [p 18 (.mov 5), p 19 (.mov 7), p 3 (.mov 18), p 4 (.mov 19)]) .ret))))⟩

def filter_codings : MFun := ⟨0, [.t 0], (.seq (.reg [p 0 (.mov (.k .nilmap))]) (.seq (.reg [p 1 (.mov (.k (.fn 241 [] [])))]) (.seq (.reg [n 2 (.mkMap), p 3 (.mov 1), w 4 (.call 3 
  [(.k (.fn 242 [] [])), (.k (.fn 211 [] []))]), w0 (.mput .s 2 (.k (.str [104, 101, 120])) 4), p 5 (.mov 1), w 6 (.call 5 [(.k (.fn 243 [] [])), (.k (.fn 212 [] []))]), w0 (.mput .s 
  2 (.k (.str [98, 97, 115, 101, 56, 53])) 6), p 7 (.mov 1), w 8 (.call 7 [(.k (.fn 244 [] [])), (.k (.fn 245 [] []))]), w0 (.mput .s 2 (.k (.str [114, 117, 110, 115])) 8), p 9 (.mov 
  1), w 10 (.call 9 [(.k (.fn 246 [] [])), (.k (.fn 247 [] []))]), w0 (.mput .s 2 (.k (.str [108, 122, 119])) 10), w0 (.mput .s 2 (.k (.str [102, 97, 120])) (.k (.fn 248 [] []))), w0 
  (.mput .s 2 (.k (.str [99, 111, 115, 105, 110, 101])) (.k (.fn 249 [] []))), p 11 (.mov 2), p 0 (.mov 11)]) .ret)))⟩

def slices_Backward_filter_coding_filter_coding_1_l0 : MCode := (.seq (.keep [0, 1, 3]) (.seq (.seq (.reg [p 7 (.mov 3), p 8 (.bin .geq 7 (.k (.int .i64 0)))]) (.cond 8 .skip (.exit 
  0))) (.seq (.block 1 (.seq (.reg [p 11 (.mov 0), p 12 (.mov 3), r 13 (.load none 1), p 14 (.mov 3), p 15 (.iaddrS 1 13 14), r 16 (.load none 15), w 17 (.call 11 [12, 16]), p 18 (.un 
  .not 17)]) (.cond 18 .ret .skip))) (.seq (.keep [0, 1, 3]) (.reg [p 9 (.mov 3), p 10 (.bin .sub 9 (.k (.int .i64 1))), p 3 (.mov 10)])))))
def slices_Backward_filter_coding_filter_coding_1 : MFun := ⟨2, [], (.seq (.reg [r 4 (.load none 1), p 5 (.lenOf false 4), p 6 (.bin .sub 5 (.k (.int .i64 1))), p 3 (.mov 6)]) (.block 
  0 (.loop slices_Backward_filter_coding_filter_coding_1_l0)))⟩

def filter_codings_1 : MFun := ⟨2, [.t 4], (.seq (.reg [n 2 (.box 315 false 0), n 3 (.box 140 false 1), p 4 (.mov (.k .nilfn))]) (.seq (.reg [p 5 (.mkfn 250 [] [2, 3]), p 4 (.mov 5)]) 
  .ret))⟩

def ascii_Hex_l0 : MCode := (.seq (.keep [0, 4, 10, 11]) (.seq (.reg [p 12 (.bin .lss 11 10)]) (.seq (.cond 12 .skip (.exit 0)) (.seq (.block 1 (.seq (.reg [p 13 (.mov 11), p 5 (.mov 
  13)]) (.seq (.reg [p 14 (.mov 0), p 15 (.mov 5), p 16 (.idxS 14 15), p 17 (.bin .shr 16 (.k (.int .u64 4))), p 18 (.idxS (.k (.str [48, 49, 50, 51, 52, 53, 54, 55, 56, 57, 65, 66, 67, 
  68, 69, 70])) 17), w 19 (.call (.k (.fn 91 [] [])) [4, 18])]) (.reg [p 20 (.mov 0), p 21 (.mov 5), p 22 (.idxS 20 21), p 23 (.bin .and 22 (.k (.int .u8 15))), p 24 (.idxS (.k (.str 
  [48, 49, 50, 51, 52, 53, 54, 55, 56, 57, 65, 66, 67, 68, 69, 70])) 23), w 25 (.call (.k (.fn 91 [] [])) [4, 24])])))) (.seq (.keep [0, 4, 10, 11]) (.reg [p 26 (.bin .add 11 (.k (.int 
  .i64 1))), p 11 (.mov 26)]))))))
def ascii_Hex : MFun := ⟨1, [.t 2, .t 3], (.seq (.reg [p 2 (.mov (.k (.str []))), p 3 (.mov (.k (.int .i64 0)))]) (.seq (.seq (.reg [p 6 (.mov 0), p 7 (.lenOf true 6), p 8 (.bin .gtr 
  7 (.k (.int .i64 65536)))]) (.cond 8 (.seq (.reg [p 2 (.mov (.k (.str []))), p 3 (.mov (.k (.int .i64 3)))]) .ret) .skip)) (.seq (.reg [n 4 (.alloc 84 false [.nilptr, .nilslice])]) 
  (.seq (.seq (.reg [p 9 (.mov 0), p 10 (.lenOf true 9), p 11 (.mov (.k (.int .i64 0)))]) (.block 0 (.loop ascii_Hex_l0))) (.seq (.keep [4]) (.seq (.reg [w 27 (.call (.k (.fn 91 [] [])) 
  [4, (.k (.int .u8 62))])]) (.seq (.reg [w 28 (.call (.k (.fn 92 [] [])) [4]), w 29 (.call (.k (.fn 220 [] [])) [28]), p 30 (.extr 0 29), p 31 (.extr 1 29), p 2 (.mov 30), p 3 (.mov 
  31)]) .ret)))))))⟩

def ascii_Base85_l0 : MCode := (.seq (.keep [0, 4]) (.seq (.seq (.reg [p 11 (.mov 0), p 12 (.lenOf true 11), p 13 (.bin .gtr 12 (.k (.int .i64 0)))]) (.cond 13 .skip (.exit 0))) (.block 
  1 (.seq (.reg [n 5 (.alloc 318 true [(.int .u8 0), (.int .u8 0), (.int .u8 0), (.int .u8 0)])]) (.seq (.reg [p 14 (.subA 4 1 5 none none none), p 15 (.mov 0), w 16 (.copy 1 14 15), 
  p 6 (.mov 16)]) (.seq (.reg [p 17 (.mov 0), p 18 (.mov 6), p 19 (.subS 17 (some 18) none), p 0 (.mov 19)]) (.seq (.reg [r 20 (.load (some 4) 5), w 21 (.call (.k (.fn 251 [] [])) [20]), 
  n 7 (.alloc 323 false [(.int .u8 0), (.int .u8 0), (.int .u8 0), (.int .u8 0), (.int .u8 0)]), w0 (.store 5 7 21)]) (.seq (.seq (.reg [p 22 (.mov 6), p 23 (.bin .eql 22 (.k (.int .i64 
  4))), p 24 (.mov 23), rg 25 24 true (.load (some 4) 5), pg 26 24 true (.build [(.int .u8 0), (.int .u8 0), (.int .u8 0), (.int .u8 0)] []), pg 27 24 true (.eqA false [(.i .u8), (.i 
  .u8), (.i .u8), (.i .u8)] 25 26), p 28 (.pick 24 27 (.k (.bool false)))]) (.cond 28 (.seq (.reg [w 29 (.call (.k (.fn 91 [] [])) [4, (.k (.int .u8 122))])]) (.exit 1)) .skip)) (.seq 
  (.keep [0, 4, 6, 7]) (.reg [p 30 (.mov 6), p 31 (.bin .add 30 (.k (.int .i64 1))), p 32 (.subA 5 1 7 none (some 31) none), w 33 (.call (.k (.fn 252 [] [])) [4, 32])]))))))))))
def ascii_Base85 : MFun := ⟨1, [.t 2, .t 3], (.seq (.reg [p 2 (.mov (.k (.str []))), p 3 (.mov (.k (.int .i64 0)))]) (.seq (.seq (.reg [p 8 (.mov 0), p 9 (.lenOf true 8), p 10 (.bin 
  .gtr 9 (.k (.int .i64 65536)))]) (.cond 10 (.seq (.reg [p 2 (.mov (.k (.str []))), p 3 (.mov (.k (.int .i64 3)))]) .ret) .skip)) (.seq (.reg [n 4 (.alloc 84 false [.nilptr, .nilslice])]) 
  (.seq (.block 0 (.loop ascii_Base85_l0)) (.seq (.keep [4]) (.seq (.reg [w 34 (.call (.k (.fn 169 [] [])) [4, (.k (.str [126, 62]))])]) (.seq (.reg [w 35 (.call (.k (.fn 92 [] [])) [4]), 
  w 36 (.call (.k (.fn 220 [] [])) [35]), p 37 (.extr 0 36), p 38 (.extr 1 36), p 2 (.mov 37), p 3 (.mov 38)]) .ret)))))))⟩

def runs_Encode_l0 : MCode := (.seq (.keep [4, 5, 27, 28, 29]) (.seq (.reg [p 30 (.bin .lss 29 28)]) (.seq (.cond 30 .skip (.exit 2)) (.seq (.block 3 (.seq (.reg [p 31 (.iaddrS 1 27 
  29), r 32 (.load none 31), p 9 (.mov 32)]) (.seq (.seq (.reg [p 33 (.mov 9), p 34 (.lenOf false 33), p 35 (.bin .eql 34 (.k (.int .i64 1)))]) (.cond 35 (.seq (.reg [r 36 (.load none 
  5), p 37 (.mov 9), w 38 (.append 5 1 1 [(.int .u8 0)] 36 37), w0 (.store 1 5 38)]) (.exit 3)) .skip)) (.regd [.op 0 (r 39 (.load none 4)), .op 5 (p 44 (.mov 9)), .op 6 (p 45 (.iaddrS 
  1 44 (.k (.int .i64 0)))), .op 7 (r 46 (.load none 45)), .op 1 (p 40 (.mov 9)), .op 2 (p 41 (.lenOf false 40)), .op 3 (p 42 (.bin .sub (.k (.int .i64 257)) 41)), .op 4 (p 43 (.conv 
  .u8 42)), .op 8 (n 47 (.buildSl 5 2 [(.int .u8 0), (.int .u8 0)] [(0, 1, 43), (1, 1, 46)])), .op 9 (w 48 (.append 5 1 1 [(.int .u8 0)] 39 47)), .op 10 (w0 (.store 1 4 48))])))) (.seq 
  (.keep [4, 5, 27, 28, 29]) (.reg [p 49 (.bin .add 29 (.k (.int .i64 1))), p 29 (.mov 49)]))))))
def runs_Encode_l1 : MCode := (.block 1 (.seq (.seq (.reg [p 18 (.mov 7), p 19 (.lenOf false 18), p 20 (.bin .lss 19 (.k (.int .i64 3)))]) (.cond 20 (.seq (.reg [r 21 (.load none 5), 
  p 22 (.mov 7), w 23 (.append 5 1 1 [(.int .u8 0)] 21 22), w0 (.store 1 5 23)]) (.exit 1)) .skip)) (.seq (.reg [r 24 (.load none 6), w 25 (.call 24 [])]) (.seq (.reg [p 26 (.mov 7), 
  w 27 (.call (.k (.fn 255 [] [])) [26, (.k (.int .i64 128))]), p 28 (.lenOf false 27), p 29 (.mov (.k (.int .i64 0)))]) (.block 2 (.loop runs_Encode_l0))))))
def runs_Encode : MFun := ⟨1, [.t 2, .t 3], (.seq (.reg [p 2 (.mov (.k (.str []))), p 3 (.mov (.k (.int .i64 0)))]) (.seq (.seq (.reg [p 10 (.mov 0), p 11 (.lenOf true 10), p 12 (.bin 
  .gtr 11 (.k (.int .i64 65536)))]) (.cond 12 (.seq (.reg [p 2 (.mov (.k (.str []))), p 3 (.mov (.k (.int .i64 3)))]) .ret) .skip)) (.seq (.reg [n 4 (.alloc 35 false [.nilslice]), n 5 
  (.alloc 35 false [.nilslice])]) (.seq (.reg [p 13 (.mkfn 253 [] [5, 4]), n 6 (.alloc 1 true [.nilfn]), w0 (.store 1 6 13)]) (.seq (.seq (.reg [p 14 (.mov 0), n 15 (.s2b 5 14), w 16 
  (.call (.k (.fn 254 [] [])) [15])]) (.block 0 (.rangeFunc 16 [17] (.reg [p 7 (.mov 17)]) runs_Encode_l1))) (.seq (.keep [4, 6]) (.seq (.reg [r 50 (.load none 6), w 51 (.call 50 [])]) 
  (.seq (.reg [r 52 (.load none 4), n 53 (.buildSl 5 1 [(.int .u8 0)] [(0, 1, (.k (.int .u8 128)))]), w 54 (.append 5 1 1 [(.int .u8 0)] 52 53), w0 (.store 1 4 54)]) (.seq (.seq (.reg 
  [r 55 (.load none 4), p 56 (.lenOf false 55), p 57 (.bin .gtr 56 (.k (.int .i64 65536)))]) (.cond 57 (.seq (.reg [p 2 (.mov (.k (.str []))), p 3 (.mov (.k (.int .i64 3)))]) .ret) .skip)) 
  (.seq (.reg [r 58 (.load none 4), r 59 (.b2s 58), p 2 (.mov 59), p 3 (.mov (.k (.int .i64 0)))]) .ret))))))))))⟩

def runs_Decode_l0 : MCode := (.seq (.keep [0, 5, 6, 7, 27, 28]) (.seq (.reg [p 29 (.bin .lss 28 27)]) (.seq (.cond 29 .skip (.exit 3)) (.seq (.block 4 (.reg [p 30 (.mov 5), p 31 (.mov 
  0), p 32 (.mov 6), p 33 (.idxS 31 32), n 34 (.buildSl 5 1 [(.int .u8 0)] [(0, 1, 33)]), w 35 (.append 5 1 1 [(.int .u8 0)] 30 34), p 5 (.mov 35)])) (.reg [p 36 (.bin .add 28 (.k (.int 
  .i64 1))), p 28 (.mov 36)])))))
def runs_Decode_l1 : MCode := (.seq (.keep [0, 5, 6, 7]) (.seq (.seq (.reg [p 12 (.mov 6), p 13 (.mov 0), p 14 (.lenOf true 13), p 15 (.bin .lss 12 14)]) (.cond 15 .skip (.exit 0))) 
  (.block 1 (.seq (.reg [p 16 (.mov 0), p 17 (.mov 6), p 18 (.idxS 16 17), p 19 (.conv .i64 18), p 8 (.mov 19)]) (.seq (.reg [p 20 (.mov 6), p 21 (.bin .add 20 (.k (.int .i64 1))), p 
  6 (.mov 21)]) (.block 2 (.seq (.reg [p 40 (.mov 8), p 41 (.bin .eql 40 (.k (.int .i64 128))), p 39 (.mov 41)]) (.cond 39 (.seq (.reg [p 7 (.mov (.k (.bool true)))]) (.exit 0)) (.seq 
  (.reg [p 43 (.mov 8), p 44 (.bin .lss 43 (.k (.int .i64 128))), p 42 (.mov 44)]) (.cond 42 (.seq (.seq (.reg [p 45 (.mov 6), p 46 (.mov 8), p 47 (.bin .add 45 46), p 48 (.bin .add 47 
  (.k (.int .i64 1))), p 49 (.mov 0), p 50 (.lenOf true 49), p 51 (.bin .gtr 48 50)]) (.cond 51 (.exit 0) .skip)) (.seq (.reg [p 52 (.mov 5), p 53 (.mov 0), p 54 (.mov 6), p 55 (.mov 
  6), p 56 (.mov 8), p 57 (.bin .add 55 56), p 58 (.bin .add 57 (.k (.int .i64 1))), p 59 (.subS 53 (some 54) (some 58)), w 60 (.append 5 1 1 [(.int .u8 0)] 52 59), p 5 (.mov 60)]) (.seq 
  (.keep [0, 5, 6, 7, 8]) (.reg [p 61 (.mov 6), p 62 (.mov 8), p 63 (.bin .add 62 (.k (.int .i64 1))), p 64 (.bin .add 61 63), p 6 (.mov 64)])))) (.seq (.seq (.reg [p 22 (.mov 6), p 23 
  (.mov 0), p 24 (.lenOf true 23), p 25 (.bin .eql 22 24)]) (.cond 25 (.exit 0) .skip)) (.seq (.seq (.reg [p 26 (.mov 8), p 27 (.bin .sub (.k (.int .i64 257)) 26), p 28 (.mov (.k (.int 
  .i64 0)))]) (.block 3 (.loop runs_Decode_l0))) (.seq (.keep [0, 5, 6, 7]) (.reg [p 37 (.mov 6), p 38 (.bin .add 37 (.k (.int .i64 1))), p 6 (.mov 38)]))))))))))))))
def runs_Decode : MFun := ⟨1, [.t 2, .t 3, .t 4], (.seq (.reg [p 2 (.mov (.k (.str []))), p 3 (.mov (.k (.int .i64 0))), p 4 (.mov (.k (.int .i64 0)))]) (.scope (.seq (.seq (.reg [p 
  9 (.mov 0), p 10 (.lenOf true 9), p 11 (.bin .gtr 10 (.k (.int .i64 65536)))]) (.cond 11 (.seq (.reg [p 2 (.mov (.k (.str []))), p 3 (.mov (.k (.int .i64 0))), p 4 (.mov (.k (.int .i64 
  3)))]) .ret) .skip)) (.seq (.reg [p 5 (.mov (.k .nilslice))]) (.seq (.reg [p 6 (.mov (.k (.int .i64 0))), p 7 (.mov (.k (.bool false)))]) (.seq .skip (.seq (.block 0 (.loop runs_Decode_l1)) 
  (.seq (.keep [5, 6, 7]) (.seq (.block 5 (.seq (.reg [p 66 (.mov 7), p 67 (.un .not 66), p 65 (.mov 67)]) (.cond 65 (.seq (.reg [p 2 (.mov (.k (.str []))), p 3 (.mov (.k (.int .i64 0))), 
  p 4 (.mov (.k (.int .i64 5)))]) .ret) (.seq (.reg [p 69 (.mov 5), p 70 (.lenOf false 69), p 71 (.bin .gtr 70 (.k (.int .i64 65536))), p 68 (.mov 71)]) (.cond 68 (.seq (.reg [p 2 (.mov 
  (.k (.str []))), p 3 (.mov (.k (.int .i64 0))), p 4 (.mov (.k (.int .i64 3)))]) .ret) .skip))))) (.seq (.keep [5, 6]) (.seq (.reg [p 72 (.mov 5), r 73 (.b2s 72), p 74 (.mov 6), p 2 
  (.mov 73), p 3 (.mov 74), p 4 (.mov (.k (.int .i64 0)))]) .ret)))))))))))⟩

def lzw_Encode_l0 : MCode := (.seq (.keep [0, 4, 5, 6, 7]) (.seq (.seq (.reg [p 37 (.mov 6), p 38 (.mov 0), p 39 (.lenOf true 38), p 40 (.bin .lss 37 39)]) (.cond 40 .skip (.exit 2))) 
  (.seq (.block 3 (.seq (.reg [p 44 (.mov 5), p 45 (.mov 7), p 46 (.mov 0), p 47 (.mov 6), p 48 (.idxS 46 47), p 49 (.build [(.int .i64 0), (.int .u8 0)] [(0, 1, 45), (1, 1, 48)]), p 
  50 (.stuck), p 43 (.mov 50), p 51 (.extr 0 43), p 52 (.extr 1 43), p 8 (.mov 51), p 9 (.mov 52)]) (.seq (.keep [0, 4, 5, 6, 7, 8, 9]) (.seq (.seq (.reg [p 53 (.mov 9), p 54 (.un .not 
  53)]) (.cond 54 (.exit 2) .skip)) (.reg [p 55 (.mov 8), p 7 (.mov 55)]))))) (.seq (.keep [0, 4, 5, 6, 7]) (.reg [p 41 (.mov 6), p 42 (.bin .add 41 (.k (.int .i64 1))), p 6 (.mov 42)])))))
def lzw_Encode_l1 : MCode := (.seq (.keep [0, 4, 5, 6]) (.seq (.seq (.reg [p 18 (.mov 6), p 19 (.mov 0), p 20 (.lenOf true 19), p 21 (.bin .lss 18 20)]) (.cond 21 .skip (.exit 0))) 
  (.block 1 (.seq (.seq (.reg [p 22 (.mov 4), p 23 (.nilck 22), p 24 (.faddr 0 23), p 25 (.faddr 0 24), r 26 (.load none 25), p 27 (.bin .eql 26 (.k (.int .i64 3838)))]) (.cond 27 (.seq 
  (.reg [p 28 (.mov 4), w 29 (.call (.k (.fn 256 [] [])) [28, (.k (.int .i64 256))])]) (.reg [n 30 (.mkMap), p 5 (.mov 30)])) .skip)) (.seq (.keep [0, 4, 5, 6]) (.seq (.reg [p 31 (.mov 
  0), p 32 (.mov 6), p 33 (.idxS 31 32), p 34 (.conv .i64 33), p 7 (.mov 34)]) (.seq (.seq (.reg [p 35 (.mov 6), p 36 (.bin .add 35 (.k (.int .i64 1))), p 6 (.mov 36)]) (.block 2 (.loop 
  lzw_Encode_l0))) (.seq (.keep [0, 4, 5, 6, 7]) (.seq (.reg [p 56 (.mov 4), p 57 (.mov 7), w 58 (.call (.k (.fn 256 [] [])) [56, 57])]) (.seq (.reg [p 59 (.mov 6), p 60 (.mov 0), p 61 
  (.lenOf true 60), p 62 (.bin .lss 59 61)]) (.cond 62 (.regd [.op 6 (p 69 (.mov 4)), .op 7 (p 70 (.nilck 69)), .op 8 (p 71 (.faddr 0 70)), .op 9 (p 72 (.faddr 0 71)), .op 10 (r 73 (.load 
  none 72)), .op 0 (p 63 (.mov 5)), .op 1 (p 64 (.mov 7)), .op 2 (p 65 (.mov 0)), .op 3 (p 66 (.mov 6)), .op 4 (p 67 (.idxS 65 66)), .op 5 (p 68 (.build [(.int .i64 0), (.int .u8 0)] 
  [(0, 1, 64), (1, 1, 67)])), .op 11 (p 74 (.bin .add (.k (.int .i64 258)) 73)), .op 12 (p 75 (.bin .sub 74 (.k (.int .i64 1)))), .op 13 (p0 (.stuck))]) .skip)))))))))))
def lzw_Encode : MFun := ⟨1, [.t 2, .t 3], (.seq (.reg [p 2 (.mov (.k (.str []))), p 3 (.mov (.k (.int .i64 0)))]) (.seq (.seq (.reg [p 10 (.mov 0), p 11 (.lenOf true 10), p 12 (.bin 
  .gtr 11 (.k (.int .i64 65536)))]) (.cond 12 (.seq (.reg [p 2 (.mov (.k (.str []))), p 3 (.mov (.k (.int .i64 3)))]) .ret) .skip)) (.seq (.reg [p 13 (.build [(.int .i64 0), .nilslice, 
  (.int .u64 0), (.int .i64 0)] []), n 14 (.box 394 false 13), p 4 (.mov 14)]) (.seq (.reg [p 15 (.mov 4), w 16 (.call (.k (.fn 256 [] [])) [15, (.k (.int .i64 256))])]) (.seq (.reg [n 
  17 (.mkMap), p 5 (.mov 17)]) (.seq (.seq (.reg [p 6 (.mov (.k (.int .i64 0)))]) (.block 0 (.loop lzw_Encode_l1))) (.seq (.keep [4]) (.seq (.reg [p 76 (.mov 4), w 77 (.call (.k (.fn 
  256 [] [])) [76, (.k (.int .i64 257))])]) (.seq (.reg [p 78 (.mov 4), w 79 (.call (.k (.fn 257 [] [])) [78])]) (.seq (.seq (.reg [p 80 (.mov 4), p 81 (.nilck 80), p 82 (.faddr 1 81), 
  r 83 (.load none 82), p 84 (.lenOf false 83), p 85 (.bin .gtr 84 (.k (.int .i64 65536)))]) (.cond 85 (.seq (.reg [p 2 (.mov (.k (.str []))), p 3 (.mov (.k (.int .i64 3)))]) .ret) .skip)) 
  (.seq (.keep [4]) (.seq (.reg [p 86 (.mov 4), p 87 (.nilck 86), p 88 (.faddr 1 87), r 89 (.load none 88), r 90 (.b2s 89), p 2 (.mov 90), p 3 (.mov (.k (.int .i64 0)))]) .ret))))))))))))⟩

def lzw_Decode : MFun := ⟨1, [.t 2, .t 3, .t 4], (.seq (.reg [p 2 (.mov (.k (.str []))), p 3 (.mov (.k (.int .i64 0))), p 4 (.mov (.k (.int .i64 0)))]) (.seq (.seq (.reg [p 9 (.mov 
  0), p 10 (.lenOf true 9), p 11 (.bin .gtr 10 (.k (.int .i64 65536)))]) (.cond 11 (.seq (.reg [p 2 (.mov (.k (.str []))), p 3 (.mov (.k (.int .i64 0))), p 4 (.mov (.k (.int .i64 3)))]) 
  .ret) .skip)) (.seq (.reg [p 12 (.mov 0), p 13 (.build [(.int .i64 0), (.str []), (.int .i64 0), (.int .u64 0), (.int .i64 0)] [(1, 1, 12)]), n 14 (.box 400 false 13), p 5 (.mov 14)]) 
  (.seq (.reg [p 16 (.mov 5), w 17 (.call (.k (.fn 258 [] [])) [16]), p 15 (.mov 17), p 18 (.extr 0 15), p 19 (.extr 1 15), p 20 (.extr 2 15), p 6 (.mov 18), p 7 (.mov 19), p 8 (.mov 
  20)]) (.seq (.keep [5, 6, 7, 8]) (.seq (.seq (.reg [p 21 (.mov 8), p 22 (.un .not 21)]) (.cond 22 (.seq (.reg [p 2 (.mov (.k (.str []))), p 3 (.mov (.k (.int .i64 0))), p 4 (.mov (.k 
  (.int .i64 5)))]) .ret) .skip)) (.seq (.seq (.reg [p 23 (.mov 7), p 24 (.bin .gtr 23 (.k (.int .i64 65536)))]) (.cond 24 (.seq (.reg [p 2 (.mov (.k (.str []))), p 3 (.mov (.k (.int 
  .i64 0))), p 4 (.mov (.k (.int .i64 3)))]) .ret) .skip)) (.seq (.regd [.op 0 (p 25 (.mov 6)), .op 1 (r 26 (.b2s 25)), .op 2 (p 27 (.mov 5)), .op 3 (p 28 (.nilck 27)), .op 4 (p 29 (.faddr 
  2 28)), .op 5 (r 30 (.load none 29)), .op 6 (p 2 (.mov 26)), .op 7 (p 3 (.mov 30)), .op 8 (p 4 (.mov (.k (.int .i64 0))))]) .ret))))))))⟩

def filter_codings_2 : MFun := ⟨1, [.t 2], (.seq (.reg [n 1 (.box 348 false 0), p 2 (.mov (.k (.bool false)))]) (.seq (.reg [r 3 (.load none 1), p 4 (.mkfn 259 [] [1]), p 5 (.nilck 
  3), p 6 (.faddr 4 5), w0 (.store 1 6 4)]) (.seq (.reg [r 7 (.load none 1), p 8 (.mkfn 260 [] [1]), p 9 (.nilck 7), p 10 (.faddr 5 9), w0 (.store 1 10 8)]) (.seq (.reg [r 11 (.load none 
  1), p 12 (.nilck 11), r 13 (.load (some 6) 12), w 14 (.call (.k (.fn 261 [] [])) [13, (.k (.int .i64 128)), (.k (.int .i64 0)), (.k (.int .i64 0))]), p 2 (.mov 14)]) .ret))))⟩

def filter_codings_3 : MFun := ⟨1, [.t 2], (.seq (.reg [n 1 (.box 348 false 0), p 2 (.mov (.k (.bool false)))]) (.seq (.reg [r 3 (.load none 1), p 4 (.mkfn 262 [] [1]), p 5 (.nilck 
  3), p 6 (.faddr 4 5), w0 (.store 1 6 4)]) (.seq (.reg [r 7 (.load none 1), p 8 (.mkfn 263 [] [1]), p 9 (.nilck 7), p 10 (.faddr 5 9), w0 (.store 1 10 8)]) (.seq (.reg [r 11 (.load none 
  1), p 12 (.nilck 11), r 13 (.load (some 6) 12), w 14 (.call (.k (.fn 261 [] [])) [13, (.k (.int .i64 128)), (.k (.int .i64 128)), (.k (.int .i64 255))]), p 2 (.mov 14)]) .ret))))⟩

def filter_codings_1_1 : MFun := ⟨3, [.t 4], (.seq (.reg [p 4 (.mov (.k (.bool false)))]) (.seq (.regd [.op 2 (r 7 (.load none 1)), .op 3 (r 8 (.load none 2)), .op 0 (p 5 (.mov 0)), 
  .op 4 (p 9 (.nilck 5)), .op 5 (p 10 (.faddr 4 9)), .op 6 (w0 (.store 1 10 7)), .re 3, .op 1 (p 6 (.mov 0)), .op 7 (p 11 (.nilck 6)), .op 8 (p 12 (.faddr 5 11)), .op 9 (w0 (.store 1 
  12 8))]) (.seq (.keep [0]) (.seq (.reg [p 13 (.mov 0), p 14 (.nilck 13), r 15 (.load (some 6) 14), w 16 (.call (.k (.fn 261 [] [])) [15, (.k (.int .i64 0)), (.k (.int .i64 0)), (.k 
  (.int .i64 0))]), p 4 (.mov 16)]) .ret))))⟩

def ascii_group_spread_l0 : MCode := (.seq (.keep [2, 3, 4, 5]) (.seq (.seq (.reg [p 24 (.mov 5), p 25 (.bin .geq 24 (.k (.int .i64 0)))]) (.cond 25 .skip (.exit 0))) (.seq (.block 
  1 (.seq (.reg [p 28 (.mov 5), p 29 (.mov 3), p 30 (.bin .rem 29 (.k (.int .u32 85))), p 31 (.conv .u8 30), p 32 (.bin .add (.k (.int .u8 33)) 31), p 33 (.iaddrA 5 1 4 28), w0 (.store 
  1 33 32)]) (.reg [p 34 (.mov 3), p 35 (.bin .quo 34 (.k (.int .u32 85))), p 3 (.mov 35)]))) (.seq (.keep [2, 3, 4, 5]) (.reg [p 26 (.mov 5), p 27 (.bin .sub 26 (.k (.int .i64 1))), 
  p 5 (.mov 27)])))))
def ascii_group_spread : MFun := ⟨1, [.cell 2 (some 5)], (.seq (.reg [n 1 (.box 318 true 0), n 2 (.alloc 323 true [(.int .u8 0), (.int .u8 0), (.int .u8 0), (.int .u8 0), (.int .u8 
  0)])]) (.seq (.reg [p 6 (.iaddrA 4 1 1 (.k (.int .i64 0))), r 7 (.load none 6), p 8 (.conv .u32 7), p 9 (.bin .shl 8 (.k (.int .u64 24))), p 10 (.iaddrA 4 1 1 (.k (.int .i64 1))), r 
  11 (.load none 10), p 12 (.conv .u32 11), p 13 (.bin .shl 12 (.k (.int .u64 16))), p 14 (.bin .or 9 13), p 15 (.iaddrA 4 1 1 (.k (.int .i64 2))), r 16 (.load none 15), p 17 (.conv .u32 
  16), p 18 (.bin .shl 17 (.k (.int .u64 8))), p 19 (.bin .or 14 18), p 20 (.iaddrA 4 1 1 (.k (.int .i64 3))), r 21 (.load none 20), p 22 (.conv .u32 21), p 23 (.bin .or 19 22), p 3 (.mov 
  23)]) (.seq (.keep [2, 3]) (.seq (.reg [n 4 (.alloc 323 true [(.int .u8 0), (.int .u8 0), (.int .u8 0), (.int .u8 0), (.int .u8 0)])]) (.seq (.seq (.reg [p 5 (.mov (.k (.int .i64 4)))]) 
  (.block 0 (.loop ascii_group_spread_l0))) (.seq (.keep [2, 4]) (.seq (.reg [r 36 (.load (some 5) 4), w0 (.store 5 2 36)]) .ret)))))))⟩

def strings_Builder_Write : MFun := ⟨2, [.t 4, .t 5], (.seq (.reg [p 4 (.mov (.k (.int .i64 0))), p 5 (.mov (.k .niliface))]) (.seq (.reg [p 6 (.mov 0), w 7 (.call (.k (.fn 109 [] [])) 
  [6])]) (.seq (.reg [p 8 (.mov 0), p 9 (.mov 0), p 10 (.nilck 9), p 11 (.faddr 1 10), r 12 (.load none 11), p 13 (.mov 1), w 14 (.append 5 1 1 [(.int .u8 0)] 12 13), p 15 (.nilck 8), 
  p 16 (.faddr 1 15), w0 (.store 1 16 14)]) (.seq (.keep [1]) (.seq (.reg [p 17 (.mov 1), p 18 (.lenOf false 17), p 4 (.mov 18), p 5 (.mov (.k .niliface))]) .ret)))))⟩

def runs_Encode_1_l0 : MCode := (.seq (.keep [0, 1, 5, 6, 7]) (.seq (.reg [p 8 (.bin .lss 7 6)]) (.seq (.cond 8 .skip (.exit 0)) (.seq (.block 1 (.seq (.reg [p 9 (.iaddrS 1 5 7), r 
  10 (.load none 9), p 3 (.mov 10)]) (.seq (.reg [p 11 (.mov 3), p 12 (.lenOf false 11), p 13 (.bin .gtr 12 (.k (.int .i64 0)))]) (.cond 13 (.reg [r 14 (.load none 1), p 15 (.mov 3), 
  p 16 (.lenOf false 15), p 17 (.bin .sub 16 (.k (.int .i64 1))), p 18 (.conv .u8 17), n 19 (.buildSl 5 1 [(.int .u8 0)] [(0, 1, 18)]), w 20 (.append 5 1 1 [(.int .u8 0)] 14 19), p 21 
  (.mov 3), w 22 (.append 5 1 1 [(.int .u8 0)] 20 21), w0 (.store 1 1 22)]) .skip)))) (.seq (.keep [0, 1, 5, 6, 7]) (.reg [p 23 (.bin .add 7 (.k (.int .i64 1))), p 7 (.mov 23)]))))))
def runs_Encode_1 : MFun := ⟨2, [], (.seq (.seq (.reg [r 4 (.load none 0), w 5 (.call (.k (.fn 255 [] [])) [4, (.k (.int .i64 128))]), p 6 (.lenOf false 5), p 7 (.mov (.k (.int .i64 
  0)))]) (.block 0 (.loop runs_Encode_1_l0))) (.seq (.keep [0]) (.reg [w0 (.store 1 0 (.k .nilslice))])))⟩

def runs_runs : MFun := ⟨1, [.t 2], (.seq (.reg [n 1 (.box 35 false 0), p 2 (.mov (.k .nilfn))]) (.seq (.reg [p 3 (.mkfn 264 [] [1]), p 2 (.mov 3)]) .ret))⟩

def runs_pieces_byte_l0 : MCode := (.seq (.keep [0, 1, 5]) (.seq (.seq (.reg [p 6 (.mov 0), p 7 (.lenOf false 6), p 8 (.mov 1), p 9 (.bin .gtr 7 8)]) (.cond 9 .skip (.exit 0))) (.block 
  1 (.seq (.reg [p 10 (.mov 5), p 11 (.mov 0), p 12 (.mov 1), p 13 (.mov 1), p 14 (.subL 1 11 none (some 12) (some 13)), n 15 (.buildSl 35 1 [.nilslice] [(0, 1, 14)]), w 16 (.append 35 
  1 24 [.nilslice] 10 15), p 5 (.mov 16)]) (.seq (.keep [0, 1, 5]) (.reg [p 17 (.mov 0), p 18 (.mov 1), p 19 (.subL 1 17 (some 18) none none), p 0 (.mov 19)]))))))
def runs_pieces_byte : MFun := ⟨2, [.t 4], (.seq (.reg [p 4 (.mov (.k .nilslice))]) (.seq (.reg [p 5 (.mov (.k .nilslice))]) (.seq (.block 0 (.loop runs_pieces_byte_l0)) (.seq (.keep 
  [0, 5]) (.seq (.reg [p 20 (.mov 5), p 21 (.mov 0), n 22 (.buildSl 35 1 [.nilslice] [(0, 1, 21)]), w 23 (.append 35 1 24 [.nilslice] 20 22), p 4 (.mov 23)]) .ret)))))⟩

def lzw_writer_put_l0 : MCode := (.seq (.keep [0, 1]) (.seq (.seq (.reg [p 30 (.mov 0), p 31 (.nilck 30), p 32 (.faddr 3 31), r 33 (.load none 32), p 34 (.bin .geq 33 (.k (.int .i64 
  8)))]) (.cond 34 .skip (.exit 0))) (.block 1 (.seq (.reg [p 35 (.mov 0), p 36 (.nilck 35), p 37 (.faddr 3 36), r 38 (.load none 37), p 39 (.bin .sub 38 (.k (.int .i64 8))), p 40 (.nilck 
  35), p 41 (.faddr 3 40), w0 (.store 1 41 39)]) (.seq (.keep [0, 1]) (.seq (.regd [.op 1 (p 43 (.mov 0)), .op 2 (p 44 (.nilck 43)), .op 3 (p 45 (.faddr 1 44)), .op 4 (r 46 (.load none 
  45)), .op 5 (p 47 (.mov 0)), .op 6 (p 48 (.nilck 47)), .op 7 (p 49 (.faddr 2 48)), .op 8 (r 50 (.load none 49)), .op 9 (p 51 (.mov 0)), .op 10 (p 52 (.nilck 51)), .op 11 (p 53 (.faddr 
  3 52)), .op 12 (r 54 (.load none 53)), .op 13 (p 55 (.bin .shr 50 54)), .op 14 (p 56 (.conv .u8 55)), .op 15 (n 57 (.buildSl 5 1 [(.int .u8 0)] [(0, 1, 56)])), .op 16 (w 58 (.append 
  5 1 1 [(.int .u8 0)] 46 57)), .op 0 (p 42 (.mov 0)), .op 17 (p 59 (.nilck 42)), .op 18 (p 60 (.faddr 1 59)), .op 19 (w0 (.store 1 60 58))]) (.seq (.keep [0, 1]) (.regd [.op 0 (p 61 
  (.mov 0)), .op 1 (p 62 (.nilck 61)), .op 2 (p 63 (.faddr 2 62)), .op 3 (r 64 (.load none 63)), .op 4 (p 65 (.mov 0)), .op 5 (p 66 (.nilck 65)), .op 6 (p 67 (.faddr 3 66)), .op 7 (r 
  68 (.load none 67)), .op 8 (p 69 (.bin .shl (.k (.int .u64 1)) 68)), .op 9 (p 70 (.bin .sub 69 (.k (.int .u64 1)))), .op 10 (p 71 (.bin .and 64 70)), .op 11 (p 72 (.nilck 61)), .op 
  12 (p 73 (.faddr 2 72)), .op 13 (w0 (.store 1 73 71))]))))))))
def lzw_writer_put : MFun := ⟨2, [], (.seq (.reg [p 5 (.mov 0), p 6 (.nilck 5), p 7 (.faddr 0 6), r 8 (.load (some 1) 7), w 9 (.call (.k (.fn 265 [] [])) [8]), p 4 (.mov 9)]) (.seq 
  (.reg [p 10 (.mov 0), p 11 (.mov 0), p 12 (.nilck 11), p 13 (.faddr 2 12), r 14 (.load none 13), p 15 (.mov 4), p 16 (.bin .shl 14 15), p 17 (.mov 1), p 18 (.conv .u64 17), p 19 (.bin 
  .or 16 18), p 20 (.nilck 10), p 21 (.faddr 2 20), w0 (.store 1 21 19)]) (.seq (.keep [0, 1, 4]) (.seq (.reg [p 22 (.mov 0), p 23 (.nilck 22), p 24 (.faddr 3 23), r 25 (.load none 24), 
  p 26 (.mov 4), p 27 (.bin .add 25 26), p 28 (.nilck 22), p 29 (.faddr 3 28), w0 (.store 1 29 27)]) (.seq (.keep [0, 1]) (.seq (.block 0 (.loop lzw_writer_put_l0)) (.seq (.keep [0, 1]) 
  (.reg [p 74 (.mov 0), p 75 (.nilck 74), p 76 (.faddr 0 75), p 77 (.mov 1), w 78 (.call (.k (.fn 266 [] [])) [76, 77])]))))))))⟩

def lzw_writer_close : MFun := ⟨1, [], (.seq (.reg [p 2 (.mov 0), p 3 (.nilck 2), p 4 (.faddr 3 3), r 5 (.load none 4), p 6 (.bin .gtr 5 (.k (.int .i64 0)))]) (.cond 6 (.regd [.op 1 
  (p 8 (.mov 0)), .op 2 (p 9 (.nilck 8)), .op 3 (p 10 (.faddr 1 9)), .op 4 (r 11 (.load none 10)), .op 5 (p 12 (.mov 0)), .op 6 (p 13 (.nilck 12)), .op 7 (p 14 (.faddr 2 13)), .op 8 (r 
  15 (.load none 14)), .op 9 (p 16 (.mov 0)), .op 10 (p 17 (.nilck 16)), .op 11 (p 18 (.faddr 3 17)), .op 12 (r 19 (.load none 18)), .op 13 (p 20 (.bin .sub (.k (.int .i64 8)) 19)), .op 
  14 (p 21 (.bin .shl 15 20)), .op 15 (p 22 (.conv .u8 21)), .op 16 (n 23 (.buildSl 5 1 [(.int .u8 0)] [(0, 1, 22)])), .op 17 (w 24 (.append 5 1 1 [(.int .u8 0)] 11 23)), .op 0 (p 7 (.mov 
  0)), .op 18 (p 25 (.nilck 7)), .op 19 (p 26 (.faddr 1 25)), .op 20 (w0 (.store 1 26 24))]) .skip))⟩

def lzw_reader_expand_l0 : MCode := (.seq (.keep [2, 5, 8, 69, 70]) (.seq (.reg [p 71 (.bin .lss 70 69)]) (.seq (.cond 71 .skip (.exit 3)) (.seq (.block 4 (.seq (.reg [p 72 (.mov 70), 
  p 10 (.mov 72)]) (.regd [.op 0 (r 73 (.load none 2)), .op 1 (r 74 (.load none 2)), .op 2 (r 75 (.load none 5)), .op 3 (p 76 (.mov 8)), .op 4 (p 77 (.bin .sub 76 (.k (.int .i64 258)))), 
  .op 5 (p 78 (.iaddrS 2 75 77)), .op 6 (p 79 (.faddr 0 78)), .op 7 (r 80 (.load none 79)), .op 8 (p 81 (.mov 10)), .op 9 (p 82 (.bin .add 80 81)), .op 10 (p 83 (.iaddrS 1 74 82)), .op 
  11 (r 84 (.load none 83)), .op 12 (n 85 (.buildSl 5 1 [(.int .u8 0)] [(0, 1, 84)])), .op 13 (w 86 (.append 5 1 1 [(.int .u8 0)] 73 85)), .op 14 (w0 (.store 1 2 86))]))) (.seq (.keep 
  [2, 5, 8, 69, 70]) (.reg [p 87 (.bin .add 70 (.k (.int .i64 1))), p 70 (.mov 87)]))))))
def lzw_reader_expand_l1 : MCode := (.block 1 (.seq (.block 2 (.seq (.reg [p 17 (.mov 8), p 18 (.bin .eql 17 (.k (.int .i64 257))), p 16 (.mov 18)]) (.cond 16 (.seq (.reg [r 19 (.load 
  none 1), p 20 (.nilck 19), p 21 (.faddr 3 20), r 22 (.load none 21), p 23 (.bin .eql 22 (.k (.int .u64 0))), w0 (.store 1 4 23)]) (.exit 0)) (.seq (.reg [p 25 (.mov 8), p 26 (.bin .eql 
  25 (.k (.int .i64 256))), p 24 (.mov 26)]) (.cond 24 (.seq (.reg [w0 (.store 1 5 (.k .nilslice))]) (.exit 1)) (.seq (.reg [p 28 (.mov 8), p 29 (.mov 7), p 30 (.bin .add (.k (.int .i64 
  257)) 29), p 31 (.bin .gtr 28 30), p 27 (.mov 31)]) (.cond 27 (.exit 0) .skip))))))) (.seq (.keep [2, 3, 5, 6, 7, 8]) (.seq (.seq (.reg [p 32 (.mov 7), p 33 (.bin .gtr 32 (.k (.int 
  .i64 0)))]) (.cond 33 (.reg [r 34 (.load none 5), p 35 (.faddr 0 6), r 36 (.load none 35), p 37 (.faddr 1 6), r 38 (.load none 37), p 39 (.bin .add 38 (.k (.int .i64 1))), p 40 (.build 
  [(.int .i64 0), (.int .i64 0)] [(0, 1, 36), (1, 1, 39)]), n 41 (.buildSl 416 1 [(.int .i64 0), (.int .i64 0)] [(0, 2, 40)]), w 42 (.append 416 2 16 [(.int .i64 0), (.int .i64 0)] 34 
  41), w0 (.store 1 5 42)]) .skip)) (.seq (.keep [2, 3, 5, 6, 8]) (.seq (.reg [r 43 (.load none 3), p 44 (.build [(.int .i64 0), (.int .i64 0)] [(0, 1, 43), (1, 1, (.k (.int .i64 1)))]), 
  n 9 (.alloc 416 true [(.int .i64 0), (.int .i64 0)]), w0 (.store 2 9 44)]) (.seq (.seq (.reg [p 45 (.mov 8), p 46 (.bin .gtr 45 (.k (.int .i64 256)))]) (.cond 46 (.reg [r 47 (.load 
  none 5), p 48 (.mov 8), p 49 (.bin .sub 48 (.k (.int .i64 258))), p 50 (.iaddrS 2 47 49), p 51 (.faddr 1 50), r 52 (.load none 51), p 53 (.faddr 1 9), w0 (.store 1 53 52)]) .skip)) 
  (.seq (.keep [2, 3, 5, 6, 8, 9]) (.seq (.reg [r 54 (.load none 3), p 55 (.faddr 1 9), r 56 (.load none 55), p 57 (.bin .add 54 56), w0 (.store 1 3 57)]) (.seq (.reg [r 58 (.load (some 
  2) 9), w0 (.store 2 6 58)]) (.seq (.seq (.reg [r 59 (.load none 3), p 60 (.bin .gtr 59 (.k (.int .i64 65536)))]) (.cond 60 (.exit 1) .skip)) (.seq (.seq (.reg [p 61 (.mov 8), p 62 (.bin 
  .lss 61 (.k (.int .i64 256)))]) (.cond 62 (.seq (.reg [r 63 (.load none 2), p 64 (.mov 8), p 65 (.conv .u8 64), n 66 (.buildSl 5 1 [(.int .u8 0)] [(0, 1, 65)]), w 67 (.append 5 1 1 
  [(.int .u8 0)] 63 66), w0 (.store 1 2 67)]) (.exit 1)) .skip)) (.seq (.keep [2, 5, 8, 9]) (.seq (.reg [p 68 (.faddr 1 9), r 69 (.load none 68), p 70 (.mov (.k (.int .i64 0)))]) (.block 
  3 (.loop lzw_reader_expand_l0))))))))))))))))
def lzw_reader_expand : MFun := ⟨1, [.cell 2 none, .cell 3 none, .cell 4 none], (.seq (.reg [n 1 (.box 398 true 0), n 2 (.alloc 35 true [.nilslice]), n 3 (.alloc 3 true [(.int .i64 
  0)]), n 4 (.alloc 4 true [(.bool false)])]) (.scope (.seq (.reg [n 5 (.alloc 414 true [.nilslice])]) (.seq (.reg [p 11 (.build [(.int .i64 0), (.int .i64 0)] []), n 6 (.alloc 416 true 
  [(.int .i64 0), (.int .i64 0)]), w0 (.store 2 6 11)]) (.seq .skip (.seq (.seq (.reg [r 12 (.load none 1), w 13 (.call (.k (.fn 267 [] [])) [12])]) (.block 0 (.rangeFunc 13 [14, 15] 
  (.seq (.reg [p 7 (.mov 14)]) (.reg [p 8 (.mov 15)])) lzw_reader_expand_l1))) (.seq (.keep [2, 3, 4]) (.seq (.regd [.op 0 (r 88 (.load none 2)), .op 1 (r 89 (.load none 3)), .op 2 (r 
  90 (.load none 4)), .op 3 (w0 (.store 1 2 88)), .re 1, .re 2, .op 4 (w0 (.store 1 3 89)), .re 2, .op 5 (w0 (.store 1 4 90))]) .ret))))))))⟩

def filter_codings_2_1 : MFun := ⟨2, [.t 3, .t 4], (.seq (.reg [p 3 (.mov (.k (.str []))), p 4 (.mov (.k (.int .i64 0)))]) (.seq (.reg [p 5 (.mov 0), r 6 (.load none 1), p 7 (.nilck 
  6), p 8 (.faddr 0 7), p 9 (.faddr 1 8), r 10 (.load none 9), w 11 (.call (.k (.fn 9 [] [])) [5, 10]), p 12 (.extr 0 11), p 13 (.extr 1 11), p 3 (.mov 12), p 4 (.mov 13)]) .ret))⟩

def filter_codings_2_2 : MFun := ⟨2, [.t 3, .t 4, .t 5], (.seq (.reg [p 3 (.mov (.k (.str []))), p 4 (.mov (.k (.int .i64 0))), p 5 (.mov (.k (.int .i64 0)))]) (.seq (.reg [p 6 (.mov 
  0), r 7 (.load none 1), p 8 (.nilck 7), p 9 (.faddr 0 8), p 10 (.faddr 1 9), r 11 (.load none 10), w 12 (.call (.k (.fn 11 [] [])) [6, 11]), p 13 (.extr 0 12), p 14 (.extr 1 12), p 
  15 (.extr 2 12), p 3 (.mov 13), p 4 (.mov 14), p 5 (.mov 15)]) .ret))⟩

def filter_coding_right_l0 : MCode := (.seq (.keep [9, 27, 28]) (.seq (.reg [p 29 (.bin .lss 28 (.k (.int .i64 3)))]) (.seq (.cond 29 .skip (.exit 0)) (.seq (.block 1 (.seq (.reg [p 
  30 (.idxA 3 2 (some 2) 27 28), n 11 (.alloc 62 true [(.int .i64 0), (.int .i64 0)]), w0 (.store 2 11 30)]) (.seq (.reg [p 31 (.iaddrA 2 1 11 (.k (.int .i64 0))), r 32 (.load none 31), 
  p 33 (.iaddrA 2 1 11 (.k (.int .i64 1))), r 34 (.load none 33), p 35 (.minmax false [34, (.k (.int .i64 1))]), p 36 (.bin .geq 32 35), p 37 (.mov 36), pg 38 37 true (.iaddrA 2 1 11 
  (.k (.int .i64 0))), rg 39 37 true (.load none 38), pg 40 37 true (.iaddrA 2 1 11 (.k (.int .i64 1))), rg 41 37 true (.load none 40), pg 42 37 true (.bin .leq 39 41), p 43 (.pick 37 
  42 (.k (.bool false))), p 9 (.mov 43)]) (.seq (.keep [9, 27, 28]) (.seq (.reg [p 44 (.mov 9), p 45 (.un .not 44)]) (.cond 45 (.exit 0) .skip)))))) (.seq (.keep [9, 27, 28]) (.reg [p 
  46 (.bin .add 28 (.k (.int .i64 1))), p 28 (.mov 46)]))))))
def filter_coding_right : MFun := ⟨4, [.t 8], (.seq (.reg [n 4 (.box 358 true 0), p 8 (.mov (.k (.bool false)))]) (.scope (.seq (.reg [p 9 (.mov (.k (.bool true)))]) (.seq .skip (.seq 
  (.seq (.reg [p 12 (.faddr 0 4), p 13 (.faddr 1 12), r 14 (.load none 13), p 15 (.mov 1), p 16 (.build [(.int .i64 0), (.int .i64 0)] [(0, 1, 14), (1, 1, 15)]), p 17 (.faddr 0 4), p 
  18 (.faddr 2 17), r 19 (.load none 18), p 20 (.mov 2), p 21 (.build [(.int .i64 0), (.int .i64 0)] [(0, 1, 19), (1, 1, 20)]), p 22 (.faddr 0 4), p 23 (.faddr 3 22), r 24 (.load none 
  23), p 25 (.mov 3), p 26 (.build [(.int .i64 0), (.int .i64 0)] [(0, 1, 24), (1, 1, 25)]), p 27 (.build [(.int .i64 0), (.int .i64 0), (.int .i64 0), (.int .i64 0), (.int .i64 0), (.int 
  .i64 0)] [(0, 2, 16), (2, 2, 21), (4, 2, 26)]), p 28 (.mov (.k (.int .i64 0)))]) (.seq (.keep [9, 27, 28]) (.block 0 (.loop filter_coding_right_l0)))) (.seq (.keep [9]) (.seq (.reg 
  [p 47 (.mov 9), p 8 (.mov 47)]) .ret)))))))⟩

def filter_codings_3_1 : MFun := ⟨2, [.t 3, .t 4], (.seq (.reg [p 3 (.mov (.k (.str []))), p 4 (.mov (.k (.int .i64 0)))]) (.seq (.regd [.op 1 (r 6 (.load none 1)), .op 2 (p 7 (.nilck 
  6)), .op 3 (p 8 (.faddr 0 7)), .op 4 (p 9 (.faddr 1 8)), .op 5 (r 10 (.load none 9)), .op 6 (r 11 (.load none 1)), .op 7 (p 12 (.nilck 11)), .op 8 (p 13 (.faddr 0 12)), .op 9 (p 14 
  (.faddr 2 13)), .op 10 (r 15 (.load none 14)), .op 11 (r 16 (.load none 1)), .op 12 (p 17 (.nilck 16)), .op 13 (p 18 (.faddr 0 17)), .op 14 (p 19 (.faddr 3 18)), .op 15 (r 20 (.load 
  none 19)), .op 0 (p 5 (.mov 0)), .op 16 (w 21 (.call (.k (.fn 268 [] [])) [5, 10, 15, 20])), .op 17 (p 22 (.extr 0 21)), .op 18 (p 23 (.extr 1 21)), .op 19 (p 3 (.mov 22)), .op 20 (p 
  4 (.mov 23))]) .ret))⟩

def filter_codings_3_2 : MFun := ⟨2, [.t 3, .t 4, .t 5], (.seq (.reg [p 3 (.mov (.k (.str []))), p 4 (.mov (.k (.int .i64 0))), p 5 (.mov (.k (.int .i64 0)))]) (.seq (.regd [.op 1 (r 
  7 (.load none 1)), .op 2 (p 8 (.nilck 7)), .op 3 (p 9 (.faddr 0 8)), .op 4 (p 10 (.faddr 1 9)), .op 5 (r 11 (.load none 10)), .op 6 (r 12 (.load none 1)), .op 7 (p 13 (.nilck 12)), 
  .op 8 (p 14 (.faddr 0 13)), .op 9 (p 15 (.faddr 2 14)), .op 10 (r 16 (.load none 15)), .op 11 (r 17 (.load none 1)), .op 12 (p 18 (.nilck 17)), .op 13 (p 19 (.faddr 0 18)), .op 14 (p 
  20 (.faddr 3 19)), .op 15 (r 21 (.load none 20)), .op 0 (p 6 (.mov 0)), .op 16 (w 22 (.call (.k (.fn 269 [] [])) [6, 11, 16, 21])), .op 17 (p 23 (.extr 0 22)), .op 18 (p 24 (.extr 1 
  22)), .op 19 (p 25 (.extr 2 22)), .op 20 (p 3 (.mov 23)), .op 21 (p 4 (.mov 24)), .op 22 (p 5 (.mov 25))]) .ret))⟩

def runs_runs_1_l0 : MCode := (.seq (.keep [0, 1, 3, 4]) (.seq (.seq (.regd [.op 1 (r 11 (.load none 1)), .op 0 (p 10 (.mov 4)), .op 2 (p 12 (.lenOf false 11)), .op 3 (p 13 (.bin .lss 
  10 12)), .op 4 (p 14 (.mov 13)), .op 5 (rg 15 14 true (.load none 1)), .op 6 (pg 16 14 true (.mov 4)), .op 7 (pg 17 14 true (.iaddrS 1 15 16)), .op 8 (rg 18 14 true (.load none 17)), 
  .op 9 (rg 19 14 true (.load none 1)), .op 10 (pg 20 14 true (.mov 3)), .op 11 (pg 21 14 true (.iaddrS 1 19 20)), .op 12 (rg 22 14 true (.load none 21)), .op 13 (pg 23 14 true (.bin 
  .eql 18 22)), .op 14 (p 24 (.pick 14 23 (.k (.bool false))))]) (.cond 24 .skip (.exit 2))) (.seq (.keep [0, 1, 3, 4]) (.block 3 (.reg [p 25 (.mov 4), p 26 (.bin .add 25 (.k (.int .i64 
  1))), p 4 (.mov 26)])))))
def runs_runs_1_l1 : MCode := (.seq (.keep [0, 1, 3]) (.seq (.seq (.reg [p 5 (.mov 3), r 6 (.load none 1), p 7 (.lenOf false 6), p 8 (.bin .lss 5 7)]) (.cond 8 .skip (.exit 0))) (.block 
  1 (.seq (.reg [p 9 (.mov 3), p 4 (.mov 9)]) (.seq (.block 2 (.loop runs_runs_1_l0)) (.seq (.keep [0, 1, 3, 4]) (.seq (.seq (.reg [p 27 (.mov 0), r 28 (.load none 1), p 29 (.mov 3), 
  p 30 (.mov 4), p 31 (.subL 1 28 (some 29) (some 30) none), w 32 (.call 27 [31]), p 33 (.un .not 32)]) (.cond 33 .ret .skip)) (.reg [p 34 (.mov 4), p 3 (.mov 34)]))))))))
def runs_runs_1 : MFun := ⟨2, [], (.seq (.reg [p 3 (.mov (.k (.int .i64 0)))]) (.block 0 (.loop runs_runs_1_l1)))⟩

def lzw_counter_width_l0 : MCode := (.seq (.keep [1, 3]) (.seq (.seq (.reg [p 4 (.mov 3), p 5 (.bin .leq 4 (.k (.int .i64 12)))]) (.cond 5 .skip (.exit 0))) (.seq (.block 1 (.seq (.regd 
  [.op 0 (p 8 (.faddr 0 1)), .op 1 (r 9 (.load none 8)), .op 2 (p 10 (.bin .add (.k (.int .i64 258)) 9)), .op 3 (p 11 (.mov 3)), .op 4 (p 12 (.bin .shl (.k (.int .i64 1)) 11)), .op 5 
  (p 13 (.bin .leq 10 12))]) (.cond 13 (.seq (.reg [p 14 (.mov 3), p 2 (.mov 14)]) .ret) .skip))) (.seq (.keep [1, 3]) (.reg [p 6 (.mov 3), p 7 (.bin .add 6 (.k (.int .i64 1))), p 3 (.mov 
  7)])))))
def lzw_counter_width : MFun := ⟨1, [.t 2], (.seq (.reg [n 1 (.box 392 true 0), p 2 (.mov (.k (.int .i64 0)))]) (.seq (.seq (.reg [p 3 (.mov (.k (.int .i64 9)))]) (.block 0 (.loop lzw_counter_width_l0))) 
  (.seq (.keep []) (.seq (.reg [p 2 (.mov (.k (.int .i64 0)))]) .ret))))⟩

def lzw_counter_count : MFun := ⟨2, [], (.seq (.reg [p 4 (.mov 0), p 5 (.nilck 4), p 6 (.faddr 0 5), r 7 (.load none 6), p 8 (.bin .add 7 (.k (.int .i64 1))), p 9 (.nilck 4), p 10 (.faddr 
  0 9), w0 (.store 1 10 8)]) (.seq (.keep [0, 1]) (.seq (.reg [p 11 (.mov 1), p 12 (.bin .eql 11 (.k (.int .i64 256)))]) (.cond 12 (.reg [p 13 (.mov 0), p 14 (.nilck 13), p 15 (.faddr 
  0 14), w0 (.store 1 15 (.k (.int .i64 0)))]) .skip))))⟩

def lzw_reader_codes : MFun := ⟨1, [.t 2], (.seq (.reg [n 1 (.box 398 false 0), p 2 (.mov (.k .nilfn))]) (.seq (.reg [p 3 (.mkfn 270 [] [1]), p 2 (.mov 3)]) .ret))⟩

def fax_Encode_l0 : MCode := (.seq (.keep [0, 1, 6, 7, 8, 9]) (.seq (.seq (.reg [p 33 (.mov 9), p 34 (.mov 0), p 35 (.lenOf true 34), p 36 (.bin .lss 33 35)]) (.cond 36 .skip (.exit 
  0))) (.seq (.block 1 (.seq (.reg [p 41 (.mov 0), p 42 (.mov 9), p 43 (.mov 9), p 44 (.mov 6), p 45 (.bin .add 43 44), p 46 (.subS 41 (some 42) (some 45)), p 47 (.mov 1), w 48 (.call 
  (.k (.fn 17 [] [])) [46, 47]), p 40 (.mov 48), p 49 (.extr 0 40), p 50 (.extr 1 40), n 10 (.alloc 54 true (List.replicate 128 (.bool false))), w0 (.store 128 10 49), p 11 (.mov 50)]) 
  (.seq (.keep [0, 1, 6, 7, 8, 9, 10, 11]) (.seq (.seq (.reg [p 51 (.mov 11), p 52 (.un .not 51)]) (.cond 52 (.seq (.reg [p 4 (.mov (.k (.str []))), p 5 (.mov (.k (.int .i64 170)))]) 
  .ret) .skip)) (.seq (.seq (.reg [p 53 (.mov 8), r 54 (.load (some 128) 10), p 55 (.nilck 53), p 56 (.faddr 0 55), p 57 (.faddr 0 56), w0 (.store 128 57 54)]) (.seq (.regd [.op 0 (r 
  58 (.load (some 128) 10)), .op 1 (p 59 (.mov 8)), .op 2 (p 60 (.nilck 59)), .op 3 (p 61 (.faddr 0 60)), .op 4 (p 62 (.faddr 128 61)), .op 5 (r 63 (.load (some 128) 62)), .op 6 (p 64 
  (.eqA false (List.replicate 128 .b) 58 63)), .op 7 (p 65 (.mov 64)), .op 8 (rg 66 65 true (.load (some 128) 10)), .op 9 (pg 67 65 true (.build (List.replicate 128 (.bool false)) [])), 
  .op 10 (pg 68 65 true (.eqA false (List.replicate 128 .b) 66 67)), .op 11 (p 69 (.pick 65 68 (.k (.bool false))))]) (.seq (.keep [0, 1, 6, 7, 8, 9, 10, 69]) (.cond 69 (.reg [p 70 (.mov 
  7), p 71 (.build [(.int .i64 0), (.int .i64 0)] [(0, 1, (.k (.int .i64 1))), (1, 1, (.k (.int .i64 1)))]), n 72 (.buildSl 62 1 [(.int .i64 0), (.int .i64 0)] [(0, 2, 71)]), w 73 (.call 
  (.k (.fn 18 [] [])) [70, 72])]) (.reg [p 74 (.mov 8), p 75 (.mov 7), w 76 (.call (.k (.fn 19 [] [])) [74, 75])]))))) (.seq (.keep [0, 1, 6, 7, 8, 9, 10]) (.reg [p 77 (.mov 8), r 78 
  (.load (some 128) 10), p 79 (.nilck 77), p 80 (.faddr 0 79), p 81 (.faddr 128 80), w0 (.store 128 81 78)]))))))) (.seq (.keep [0, 1, 6, 7, 8, 9]) (.reg [p 37 (.mov 9), p 38 (.mov 6), 
  p 39 (.bin .add 37 38), p 9 (.mov 39)])))))
def fax_Encode : MFun := ⟨2, [.t 4, .t 5], (.seq (.reg [p 4 (.mov (.k (.str []))), p 5 (.mov (.k (.int .i64 0)))]) (.seq (.seq (.reg [p 12 (.mov 0), p 13 (.lenOf true 12), p 14 (.bin 
  .gtr 13 (.k (.int .i64 65536)))]) (.cond 14 (.seq (.reg [p 4 (.mov (.k (.str []))), p 5 (.mov (.k (.int .i64 3)))]) .ret) .skip)) (.seq (.seq (.reg [p 15 (.mov 1), p 16 (.bin .lss 15 
  (.k (.int .i64 1))), p 17 (.mov 16), pg 18 17 false (.mov 1), pg 19 17 false (.bin .gtr 18 (.k (.int .i64 128))), p 20 (.pick 17 (.k (.bool true)) 19)]) (.cond 20 (.seq (.reg [p 4 (.mov 
  (.k (.str []))), p 5 (.mov (.k (.int .i64 2)))]) .ret) .skip)) (.seq (.keep [0, 1]) (.seq (.reg [p 21 (.mov 1), w 22 (.call (.k (.fn 16 [] [])) [21]), p 6 (.mov 22)]) (.seq (.seq (.reg 
  [p 23 (.mov 0), p 24 (.lenOf true 23), p 25 (.mov 6), p 26 (.bin .rem 24 25), p 27 (.bin .neq 26 (.k (.int .i64 0)))]) (.cond 27 (.seq (.reg [p 4 (.mov (.k (.str []))), p 5 (.mov (.k 
  (.int .i64 170)))]) .ret) .skip)) (.seq (.reg [p 28 (.build [.nilslice, (.int .i64 0)] []), n 29 (.box 51 false 28), p 7 (.mov 29)]) (.seq (.reg [p 30 (.mov 1), p 31 (.build [(.bool 
  false), (.bool false), (.bool false), (.bool false), (.bool false), (.bool false), (.bool false), (.bool false), (.bool false), (.bool false), (.bool false), (.bool false), (.bool false), 
  (.bool false), (.bool false), (.bool false), (.bool false), (.bool false), (.bool false), (.bool false), (.bool false), (.bool false), (.bool false), (.bool false), (.bool false), (.bool 
  false), (.bool false), (.bool false), (.bool false), (.bool false), (.bool false), (.bool false), (.bool false), (.bool false), (.bool false), (.bool false), (.bool false), (.bool false), 
  (.bool false), (.bool false), (.bool false), (.bool false), (.bool false), (.bool false), (.bool false), (.bool false), (.bool false), (.bool false), (.bool false), (.bool false), (.bool 
  false), (.bool false), (.bool false), (.bool false), (.bool false), (.bool false), (.bool false), (.bool false), (.bool false), (.bool false), (.bool false), (.bool false), (.bool false), 
  (.bool false), (.bool false), (.bool false), (.bool false), (.bool false), (.bool false), (.bool false), (.bool false), (.bool false), (.bool false), (.bool false), (.bool false), (.bool 
  false), (.bool false), (.bool false), (.bool false), (.bool false), (.bool false), (.bool false), (.bool false), (.bool false), (.bool false), (.bool false), (.bool false), (.bool false), 
  (.bool false), (.bool false), (.bool false), (.bool false), (.bool false), (.bool false), (.bool false), (.bool false), (.bool false), (.bool false), (.bool false), (.bool false), (.bool 
  false), (.bool false), (.bool false), (.bool false), (.bool false), (.bool false), (.bool false), (.bool false), (.bool false), (.bool false), (.bool false), (.bool false), (.bool false), 
  (.bool false), (.bool false), (.bool false), (.bool false), (.bool false), (.bool false), (.bool false), (.bool false), (.bool false), (.bool false), (.bool false), (.bool false), (.bool 
  false), (.bool false), (.bool false), (.bool false), (.bool false), (.bool false), (.bool false), (.bool false), (.bool false), (.bool false), (.bool false), (.bool false), (.bool false), 
  (.bool false), (.bool false), (.bool false), (.bool false), (.bool false), (.bool false), (.bool false), (.bool false), (.bool false), (.bool false), (.bool false), (.bool false), (.bool 
  false), (.bool false), (.bool false), (.bool false), (.bool false), (.bool false), (.bool false), (.bool false), (.bool false), (.bool false), (.bool false), (.bool false), (.bool false), 
  (.bool false), (.bool false), (.bool false), (.bool false), (.bool false), (.bool false), (.bool false), (.bool false), (.bool false), (.bool false), (.bool false), (.bool false), (.bool 
  false), (.bool false), (.bool false), (.bool false), (.bool false), (.bool false), (.bool false), (.bool false), (.bool false), (.bool false), (.bool false), (.bool false), (.bool false), 
  (.bool false), (.bool false), (.bool false), (.bool false), (.bool false), (.bool false), (.bool false), (.bool false), (.bool false), (.bool false), (.bool false), (.bool false), (.bool 
  false), (.bool false), (.bool false), (.bool false), (.bool false), (.bool false), (.bool false), (.bool false), (.bool false), (.bool false), (.bool false), (.bool false), (.bool false), 
  (.bool false), (.bool false), (.bool false), (.bool false), (.bool false), (.bool false), (.bool false), (.bool false), (.bool false), (.bool false), (.bool false), (.bool false), (.bool 
  false), (.bool false), (.bool false), (.bool false), (.bool false), (.bool false), (.bool false), (.bool false), (.bool false), (.bool false), (.bool false), (.bool false), (.bool false), 
  (.bool false), (.bool false), (.bool false), (.bool false), (.bool false), (.bool false), (.bool false), (.bool false), (.bool false), (.bool false), (.bool false), (.bool false), (.bool 
  false), (.bool false), (.bool false), (.bool false), (.bool false), (.bool false), (.int .i64 0), (.int .i64 0), (.bool false)] [(256, 1, 30)]), n 32 (.box 58 false 31), p 8 (.mov 32)]) 
  (.seq (.seq (.reg [p 9 (.mov (.k (.int .i64 0)))]) (.block 0 (.loop fax_Encode_l0))) (.seq (.keep [7]) (.seq (.reg [p 82 (.mov 7), p 83 (.build [(.int .i64 0), (.int .i64 0)] [(0, 1, 
  (.k (.int .i64 1))), (1, 1, (.k (.int .i64 8)))]), n 84 (.buildSl 62 1 [(.int .i64 0), (.int .i64 0)] [(0, 2, 83)]), w 85 (.call (.k (.fn 18 [] [])) [82, 84])]) (.seq (.seq (.reg [p 
  86 (.mov 7), p 87 (.nilck 86), p 88 (.faddr 0 87), r 89 (.load none 88), p 90 (.lenOf false 89), p 91 (.bin .gtr 90 (.k (.int .i64 65536)))]) (.cond 91 (.seq (.reg [p 4 (.mov (.k (.str 
  []))), p 5 (.mov (.k (.int .i64 3)))]) .ret) .skip)) (.seq (.keep [7]) (.seq (.reg [p 92 (.mov 7), p 93 (.nilck 92), p 94 (.faddr 0 93), r 95 (.load none 94), r 96 (.b2s 95), p 4 (.mov 
  96), p 5 (.mov (.k (.int .i64 0)))]) .ret))))))))))))))⟩

def fax_Decode_l0 : MCode := (.seq (.keep [1, 7, 8, 9, 49, 50]) (.seq (.reg [p 51 (.bin .lss 50 49)]) (.seq (.cond 51 .skip (.exit 2)) (.seq (.block 3 (.seq (.reg [p 52 (.mov 50), p 
  12 (.mov 52)]) (.seq (.reg [p 13 (.mov (.k (.int .i64 0)))]) (.seq (.seq (.reg [p 53 (.mov 12), p 54 (.mov 1), p 55 (.bin .lss 53 54), p 56 (.mov 55), pg 57 56 true (.faddr 0 7), rg 
  58 56 true (.load none 57), pg 59 56 true (.mov 12), pg 60 56 true (.nilck 58), pg 61 56 true (.faddr 0 60), pg 62 56 true (.faddr 0 61), pg 63 56 true (.iaddrA 128 1 62 59), rg 64 
  56 true (.load none 63), p 65 (.pick 56 64 (.k (.bool false)))]) (.seq (.keep [1, 7, 8, 9, 13, 49, 50, 65]) (.cond 65 (.reg [p 13 (.mov (.k (.int .i64 1)))]) .skip))) (.seq (.keep [1, 
  7, 8, 9, 13, 49, 50]) (.reg [p 66 (.mov 8), p 67 (.mov 13), p 68 (.build [(.int .i64 0), (.int .i64 0)] [(0, 1, 67), (1, 1, (.k (.int .i64 1)))]), n 69 (.buildSl 62 1 [(.int .i64 0), 
  (.int .i64 0)] [(0, 2, 68)]), w 70 (.call (.k (.fn 18 [] [])) [66, 69])])))))) (.seq (.keep [1, 7, 8, 9, 49, 50]) (.reg [p 71 (.bin .add 50 (.k (.int .i64 1))), p 50 (.mov 71)]))))))
def fax_Decode_l1 : MCode := (.seq (.keep [1, 7, 8, 9]) (.block 1 (.seq (.reg [r 33 (.load (some 2) 7), w 34 (.call (.k (.fn 23 [] [])) [33]), p 32 (.mov 34), p 35 (.extr 0 32), p 36 
  (.extr 1 32), p 10 (.mov 35), p 11 (.mov 36)]) (.seq (.seq (.reg [p 37 (.mov 10)]) (.cond 37 (.exit 0) .skip)) (.seq (.seq (.reg [p 38 (.mov 11), p 39 (.un .not 38)]) (.cond 39 (.seq 
  (.reg [p 4 (.mov (.k (.str []))), p 5 (.mov (.k (.int .i64 0))), p 6 (.mov (.k (.int .i64 5)))]) .ret) .skip)) (.seq (.seq (.reg [p 40 (.mov 9), p 41 (.bin .add 40 (.k (.int .i64 1))), 
  p 9 (.mov 41)]) (.seq (.reg [p 42 (.mov 9), p 43 (.mov 1), w 44 (.call (.k (.fn 16 [] [])) [43]), p 45 (.bin .mul 42 44), p 46 (.bin .leq 45 (.k (.int .i64 65536)))]) (.cond 46 (.seq 
  (.reg [p 47 (.mov 1), w 48 (.call (.k (.fn 16 [] [])) [47]), p 49 (.bin .mul (.k (.int .i64 8)) 48), p 50 (.mov (.k (.int .i64 0)))]) (.block 2 (.loop fax_Decode_l0))) .skip))) (.seq 
  (.keep [1, 7, 8, 9]) (.regd [.op 0 (p 72 (.faddr 0 7)), .op 1 (r 73 (.load none 72)), .op 2 (p 74 (.faddr 0 7)), .op 3 (r 75 (.load none 74)), .op 4 (p 76 (.nilck 75)), .op 5 (p 77 
  (.faddr 0 76)), .op 6 (p 78 (.faddr 0 77)), .op 7 (r 79 (.load (some 128) 78)), .op 8 (p 80 (.nilck 73)), .op 9 (p 81 (.faddr 0 80)), .op 10 (p 82 (.faddr 128 81)), .op 11 (w0 (.store 
  128 82 79))]))))))))
def fax_Decode_l2 : MCode := (.seq (.keep [1, 7, 8, 9]) (.seq (.seq (.reg [p 83 (.faddr 1 7), r 84 (.load none 83), p 85 (.nilck 84), p 86 (.faddr 1 85), r 87 (.load none 86), p 88 
  (.bin .rem 87 (.k (.int .i64 8))), p 89 (.bin .neq 88 (.k (.int .i64 0)))]) (.cond 89 .skip (.exit 4))) (.block 5 (.seq (.reg [p 90 (.faddr 1 7), r 91 (.load none 90), w 92 (.call (.k 
  (.fn 24 [] [])) [91]), p 93 (.bin .eql 92 (.k (.int .i64 1)))]) (.cond 93 (.seq (.reg [p 4 (.mov (.k (.str []))), p 5 (.mov (.k (.int .i64 0))), p 6 (.mov (.k (.int .i64 5)))]) .ret) 
  .skip)))))
def fax_Decode : MFun := ⟨2, [.t 4, .t 5, .t 6], (.seq (.reg [p 4 (.mov (.k (.str []))), p 5 (.mov (.k (.int .i64 0))), p 6 (.mov (.k (.int .i64 0)))]) (.seq (.seq (.reg [p 14 (.mov 
  0), p 15 (.lenOf true 14), p 16 (.bin .gtr 15 (.k (.int .i64 65536)))]) (.cond 16 (.seq (.reg [p 4 (.mov (.k (.str []))), p 5 (.mov (.k (.int .i64 0))), p 6 (.mov (.k (.int .i64 3)))]) 
  .ret) .skip)) (.seq (.seq (.reg [p 17 (.mov 1), p 18 (.bin .lss 17 (.k (.int .i64 1))), p 19 (.mov 18), pg 20 19 false (.mov 1), pg 21 19 false (.bin .gtr 20 (.k (.int .i64 128))), 
  p 22 (.pick 19 (.k (.bool true)) 21)]) (.cond 22 (.seq (.reg [p 4 (.mov (.k (.str []))), p 5 (.mov (.k (.int .i64 0))), p 6 (.mov (.k (.int .i64 2)))]) .ret) .skip)) (.seq (.keep [0, 
  1]) (.seq (.reg [p 23 (.mov 1), p 24 (.build [(.bool false), (.bool false), (.bool false), (.bool false), (.bool false), (.bool false), (.bool false), (.bool false), (.bool false), 
  (.bool false), (.bool false), (.bool false), (.bool false), (.bool false), (.bool false), (.bool false), (.bool false), (.bool false), (.bool false), (.bool false), (.bool false), (.bool 
  false), (.bool false), (.bool false), (.bool false), (.bool false), (.bool false), (.bool false), (.bool false), (.bool false), (.bool false), (.bool false), (.bool false), (.bool false), 
  (.bool false), (.bool false), (.bool false), (.bool false), (.bool false), (.bool false), (.bool false), (.bool false), (.bool false), (.bool false), (.bool false), (.bool false), (.bool 
  false), (.bool false), (.bool false), (.bool false), (.bool false), (.bool false), (.bool false), (.bool false), (.bool false), (.bool false), (.bool false), (.bool false), (.bool false), 
  (.bool false), (.bool false), (.bool false), (.bool false), (.bool false), (.bool false), (.bool false), (.bool false), (.bool false), (.bool false), (.bool false), (.bool false), (.bool 
  false), (.bool false), (.bool false), (.bool false), (.bool false), (.bool false), (.bool false), (.bool false), (.bool false), (.bool false), (.bool false), (.bool false), (.bool false), 
  (.bool false), (.bool false), (.bool false), (.bool false), (.bool false), (.bool false), (.bool false), (.bool false), (.bool false), (.bool false), (.bool false), (.bool false), (.bool 
  false), (.bool false), (.bool false), (.bool false), (.bool false), (.bool false), (.bool false), (.bool false), (.bool false), (.bool false), (.bool false), (.bool false), (.bool false), 
  (.bool false), (.bool false), (.bool false), (.bool false), (.bool false), (.bool false), (.bool false), (.bool false), (.bool false), (.bool false), (.bool false), (.bool false), (.bool 
  false), (.bool false), (.bool false), (.bool false), (.bool false), (.bool false), (.bool false), (.bool false), (.bool false), (.bool false), (.bool false), (.bool false), (.bool false), 
  (.bool false), (.bool false), (.bool false), (.bool false), (.bool false), (.bool false), (.bool false), (.bool false), (.bool false), (.bool false), (.bool false), (.bool false), (.bool 
  false), (.bool false), (.bool false), (.bool false), (.bool false), (.bool false), (.bool false), (.bool false), (.bool false), (.bool false), (.bool false), (.bool false), (.bool false), 
  (.bool false), (.bool false), (.bool false), (.bool false), (.bool false), (.bool false), (.bool false), (.bool false), (.bool false), (.bool false), (.bool false), (.bool false), (.bool 
  false), (.bool false), (.bool false), (.bool false), (.bool false), (.bool false), (.bool false), (.bool false), (.bool false), (.bool false), (.bool false), (.bool false), (.bool false), 
  (.bool false), (.bool false), (.bool false), (.bool false), (.bool false), (.bool false), (.bool false), (.bool false), (.bool false), (.bool false), (.bool false), (.bool false), (.bool 
  false), (.bool false), (.bool false), (.bool false), (.bool false), (.bool false), (.bool false), (.bool false), (.bool false), (.bool false), (.bool false), (.bool false), (.bool false), 
  (.bool false), (.bool false), (.bool false), (.bool false), (.bool false), (.bool false), (.bool false), (.bool false), (.bool false), (.bool false), (.bool false), (.bool false), (.bool 
  false), (.bool false), (.bool false), (.bool false), (.bool false), (.bool false), (.bool false), (.bool false), (.bool false), (.bool false), (.bool false), (.bool false), (.bool false), 
  (.bool false), (.bool false), (.bool false), (.bool false), (.bool false), (.bool false), (.bool false), (.bool false), (.bool false), (.bool false), (.bool false), (.bool false), (.bool 
  false), (.bool false), (.bool false), (.bool false), (.bool false), (.bool false), (.bool false), (.bool false), (.bool false), (.bool false), (.int .i64 0), (.int .i64 0), (.bool false)] 
  [(256, 1, 23)]), n 25 (.box 58 false 24), p 26 (.mov 0), p 27 (.build [(.str []), (.int .i64 0), (.bool false)] [(0, 1, 26)]), n 28 (.box 71 false 27), p 29 (.build [.nilptr, .nilptr] 
  [(0, 1, 25), (1, 1, 28)]), n 7 (.alloc 73 true [.nilptr, .nilptr]), w0 (.store 2 7 29)]) (.seq (.keep [1, 7]) (.seq (.reg [p 30 (.build [.nilslice, (.int .i64 0)] []), n 31 (.box 51 
  false 30), p 8 (.mov 31), p 9 (.mov (.k (.int .i64 0)))]) (.seq (.block 0 (.loop fax_Decode_l1)) (.seq (.keep [1, 7, 8, 9]) (.seq (.block 4 (.loop fax_Decode_l2)) (.seq (.keep [1, 7, 
  8, 9]) (.seq (.seq (.reg [p 94 (.mov 9), p 95 (.mov 1), w 96 (.call (.k (.fn 16 [] [])) [95]), p 97 (.bin .mul 94 96), p 98 (.bin .gtr 97 (.k (.int .i64 65536)))]) (.cond 98 (.seq (.reg 
  [p 4 (.mov (.k (.str []))), p 5 (.mov (.k (.int .i64 0))), p 6 (.mov (.k (.int .i64 3)))]) .ret) .skip)) (.seq (.keep [7, 8]) (.seq (.regd [.op 0 (p 99 (.mov 8)), .op 1 (p 100 (.nilck 
  99)), .op 2 (p 101 (.faddr 0 100)), .op 3 (r 102 (.load none 101)), .op 4 (r 103 (.b2s 102)), .op 5 (p 104 (.faddr 1 7)), .op 6 (r 105 (.load none 104)), .op 7 (p 106 (.nilck 105)), 
  .op 8 (p 107 (.faddr 1 106)), .op 9 (r 108 (.load none 107)), .op 10 (p 109 (.bin .quo 108 (.k (.int .i64 8)))), .op 11 (p 4 (.mov 103)), .op 12 (p 5 (.mov 109)), .op 13 (p 6 (.mov 
  (.k (.int .i64 0))))]) .ret))))))))))))))⟩

def cosine_Encode_l0 : MCode := (.seq (.keep [0, 1, 2, 3, 11, 12, 13, 14, 42]) (.seq (.reg [p 43 (.bin .lss 42 (.k (.int .i64 64)))]) (.seq (.cond 43 .skip (.exit 4)) (.seq (.block 
  5 (.seq (.reg [p 44 (.mov 42), p 15 (.mov 44)]) (.seq (.reg [p 45 (.mov 12), p 46 (.mov 15), p 47 (.bin .quo 46 (.k (.int .i64 8))), p 48 (.bin .add 45 47), p 49 (.mov 2), p 50 (.bin 
  .sub 49 (.k (.int .i64 1))), p 51 (.minmax false [48, 50]), p 52 (.mov 13), p 53 (.mov 15), p 54 (.bin .rem 53 (.k (.int .i64 8))), p 55 (.bin .add 52 54), p 56 (.mov 1), p 57 (.bin 
  .sub 56 (.k (.int .i64 1))), p 58 (.minmax false [55, 57]), p 16 (.mov 51), p 17 (.mov 58)]) (.seq (.keep [0, 1, 2, 3, 11, 12, 13, 14, 15, 16, 17, 42]) (.reg [p 59 (.mov 15), p 60 (.mov 
  0), p 61 (.mov 1), p 62 (.mov 16), p 63 (.bin .mul 61 62), p 64 (.mov 17), p 65 (.bin .add 63 64), p 66 (.idxS 60 65), p 67 (.conv .i64 66), p 68 (.bin .sub 67 (.k (.int .i64 128))), 
  p 69 (.iaddrA 64 1 14 59), w0 (.store 1 69 68)]))))) (.seq (.keep [0, 1, 2, 3, 11, 12, 13, 14, 42]) (.reg [p 70 (.bin .add 42 (.k (.int .i64 1))), p 42 (.mov 70)]))))))
def cosine_Encode_l1 : MCode := (.seq (.keep [0, 1, 2, 3, 11, 12, 13]) (.seq (.seq (.reg [p 37 (.mov 13), p 38 (.mov 1), p 39 (.bin .lss 37 38)]) (.cond 39 .skip (.exit 2))) (.seq (.block 
  3 (.seq (.reg [n 14 (.alloc 376 true (List.replicate 64 (.int .i64 0)))]) (.seq (.seq (.reg [p 42 (.mov (.k (.int .i64 0)))]) (.block 4 (.loop cosine_Encode_l0))) (.seq (.keep [0, 1, 
  2, 3, 11, 12, 13, 14]) (.reg [p 71 (.mov 11), r 72 (.load (some 64) 14), p 73 (.mov 3), w 74 (.call (.k (.fn 272 [] [])) [72, 73]), w 75 (.append 5 1 1 [(.int .u8 0)] 71 74), p 11 (.mov 
  75)]))))) (.seq (.keep [0, 1, 2, 3, 11, 12, 13]) (.reg [p 40 (.mov 13), p 41 (.bin .add 40 (.k (.int .i64 8))), p 13 (.mov 41)])))))
def cosine_Encode_l2 : MCode := (.seq (.keep [0, 1, 2, 3, 11, 12]) (.seq (.seq (.reg [p 32 (.mov 12), p 33 (.mov 2), p 34 (.bin .lss 32 33)]) (.cond 34 .skip (.exit 0))) (.seq (.block 
  1 (.seq (.reg [p 13 (.mov (.k (.int .i64 0)))]) (.block 2 (.loop cosine_Encode_l1)))) (.seq (.keep [0, 1, 2, 3, 11, 12]) (.reg [p 35 (.mov 12), p 36 (.bin .add 35 (.k (.int .i64 8))), 
  p 12 (.mov 36)])))))
def cosine_Encode : MFun := ⟨4, [.t 8, .t 9], (.seq (.reg [p 8 (.mov (.k (.str []))), p 9 (.mov (.k (.int .i64 0)))]) (.seq (.seq (.reg [p 18 (.mov 0), p 19 (.mov 1), p 20 (.mov 2), 
  p 21 (.mov 3), w 22 (.call (.k (.fn 271 [] [])) [18, 19, 20, 21]), p 10 (.mov 22)]) (.seq (.reg [p 23 (.mov 10), p 24 (.bin .neq 23 (.k (.int .i64 0)))]) (.cond 24 (.seq (.reg [p 25 
  (.mov 10), p 8 (.mov (.k (.str []))), p 9 (.mov 25)]) .ret) .skip))) (.seq (.keep [0, 1, 2, 3]) (.seq (.seq (.reg [p 26 (.mov 0), p 27 (.lenOf true 26), p 28 (.mov 1), p 29 (.mov 2), 
  p 30 (.bin .mul 28 29), p 31 (.bin .neq 27 30)]) (.cond 31 (.seq (.reg [p 8 (.mov (.k (.str []))), p 9 (.mov (.k (.int .i64 180)))]) .ret) .skip)) (.seq (.keep [0, 1, 2, 3]) (.seq (.reg 
  [p 11 (.mov (.k .nilslice))]) (.seq (.seq (.reg [p 12 (.mov (.k (.int .i64 0)))]) (.block 0 (.loop cosine_Encode_l2))) (.seq (.keep [11]) (.seq (.seq (.reg [p 76 (.mov 11), p 77 (.lenOf 
  false 76), p 78 (.bin .gtr 77 (.k (.int .i64 65536)))]) (.cond 78 (.seq (.reg [p 8 (.mov (.k (.str []))), p 9 (.mov (.k (.int .i64 3)))]) .ret) .skip)) (.seq (.reg [p 79 (.mov 11), 
  r 80 (.b2s 79), p 8 (.mov 80), p 9 (.mov (.k (.int .i64 0)))]) .ret))))))))))⟩

def cosine_Decode_l0 : MCode := (.seq (.keep [1, 2, 3, 12, 13, 14, 15, 63, 64]) (.seq (.reg [p 65 (.bin .lss 64 (.k (.int .i64 64)))]) (.seq (.cond 65 .skip (.exit 4)) (.seq (.block 
  5 (.seq (.reg [p 66 (.mov 64), p 67 (.idxA 64 1 none 63 64), p 20 (.mov 66), p 21 (.mov 67)]) (.seq (.reg [p 68 (.mov 14), p 69 (.mov 20), p 70 (.bin .quo 69 (.k (.int .i64 8))), p 
  71 (.bin .add 68 70), p 72 (.mov 15), p 73 (.mov 20), p 74 (.bin .rem 73 (.k (.int .i64 8))), p 75 (.bin .add 72 74), p 22 (.mov 71), p 23 (.mov 75)]) (.seq (.keep [1, 2, 3, 12, 13, 
  14, 15, 21, 22, 23, 63, 64]) (.seq (.reg [p 76 (.mov 22), p 77 (.mov 2), p 78 (.bin .lss 76 77), p 79 (.mov 78), pg 80 79 true (.mov 23), pg 81 79 true (.mov 1), pg 82 79 true (.bin 
  .lss 80 81), p 83 (.pick 79 82 (.k (.bool false)))]) (.seq (.keep [1, 2, 3, 12, 13, 14, 15, 21, 22, 23, 63, 64, 83]) (.cond 83 (.reg [p 84 (.mov 13), p 85 (.mov 1), p 86 (.mov 22), 
  p 87 (.bin .mul 85 86), p 88 (.mov 23), p 89 (.bin .add 87 88), p 90 (.mov 21), p 91 (.bin .add (.k (.int .i64 128)) 90), p 92 (.minmax true [91, (.k (.int .i64 0))]), p 93 (.minmax 
  false [92, (.k (.int .i64 255))]), p 94 (.conv .u8 93), p 95 (.iaddrS 1 84 89), w0 (.store 1 95 94)]) .skip))))))) (.seq (.keep [1, 2, 3, 12, 13, 14, 15, 63, 64]) (.reg [p 96 (.bin 
  .add 64 (.k (.int .i64 1))), p 64 (.mov 96)]))))))
def cosine_Decode_l1 : MCode := (.seq (.keep [1, 2, 3, 12, 13, 14, 15]) (.seq (.seq (.reg [p 45 (.mov 15), p 46 (.mov 1), p 47 (.bin .lss 45 46)]) (.cond 47 .skip (.exit 2))) (.seq 
  (.block 3 (.seq (.reg [p 51 (.mov 12), p 52 (.mov 3), w 53 (.call (.k (.fn 273 [] [])) [51, 52]), p 50 (.mov 53), p 54 (.extr 0 50), p 55 (.extr 1 50), n 16 (.alloc 376 true (List.replicate 
  64 (.int .i64 0))), w0 (.store 64 16 54), p 17 (.mov 55)]) (.seq (.keep [1, 2, 3, 12, 13, 14, 15, 16, 17]) (.seq (.seq (.reg [p 56 (.mov 17), p 57 (.un .not 56)]) (.cond 57 (.seq (.reg 
  [p 8 (.mov (.k (.str []))), p 9 (.mov (.k (.int .i64 0))), p 10 (.mov (.k (.int .i64 5)))]) .ret) .skip)) (.seq (.reg [r 59 (.load (some 64) 16), w 60 (.call (.k (.fn 274 [] [])) [59]), 
  p 58 (.mov 60), p 61 (.extr 0 58), p 62 (.extr 1 58), n 18 (.alloc 376 true (List.replicate 64 (.int .i64 0))), w0 (.store 64 18 61), p 19 (.mov 62)]) (.seq (.keep [1, 2, 3, 12, 13, 
  14, 15, 18]) (.seq (.reg [r 63 (.load (some 64) 18), p 64 (.mov (.k (.int .i64 0)))]) (.block 4 (.loop cosine_Decode_l0))))))))) (.seq (.keep [1, 2, 3, 12, 13, 14, 15]) (.reg [p 48 
  (.mov 15), p 49 (.bin .add 48 (.k (.int .i64 8))), p 15 (.mov 49)])))))
def cosine_Decode_l2 : MCode := (.seq (.keep [1, 2, 3, 12, 13, 14]) (.seq (.seq (.reg [p 40 (.mov 14), p 41 (.mov 2), p 42 (.bin .lss 40 41)]) (.cond 42 .skip (.exit 0))) (.seq (.block 
  1 (.seq (.reg [p 15 (.mov (.k (.int .i64 0)))]) (.block 2 (.loop cosine_Decode_l1)))) (.seq (.keep [1, 2, 3, 12, 13, 14]) (.reg [p 43 (.mov 14), p 44 (.bin .add 43 (.k (.int .i64 8))), 
  p 14 (.mov 44)])))))
def cosine_Decode : MFun := ⟨4, [.t 8, .t 9, .t 10], (.seq (.reg [p 8 (.mov (.k (.str []))), p 9 (.mov (.k (.int .i64 0))), p 10 (.mov (.k (.int .i64 0)))]) (.seq (.seq (.reg [p 24 
  (.mov 0), p 25 (.mov 1), p 26 (.mov 2), p 27 (.mov 3), w 28 (.call (.k (.fn 271 [] [])) [24, 25, 26, 27]), p 11 (.mov 28)]) (.seq (.reg [p 29 (.mov 11), p 30 (.bin .neq 29 (.k (.int 
  .i64 0)))]) (.cond 30 (.seq (.reg [p 31 (.mov 11), p 8 (.mov (.k (.str []))), p 9 (.mov (.k (.int .i64 0))), p 10 (.mov 31)]) .ret) .skip))) (.seq (.keep [0, 1, 2, 3]) (.seq (.reg [p 
  32 (.mov 0), p 33 (.build [(.str []), (.int .i64 0)] [(0, 1, 32)]), p 34 (.build [(.str []), (.int .i64 0)] [(0, 2, 33)]), n 35 (.box 406 false 34), p 12 (.mov 35)]) (.seq (.reg [p 
  36 (.mov 1), p 37 (.mov 2), p 38 (.bin .mul 36 37), n 39 (.mkSl 5 1 1 [(.int .u8 0)] 38 38), p 13 (.mov 39)]) (.seq (.seq (.reg [p 14 (.mov (.k (.int .i64 0)))]) (.block 0 (.loop cosine_Decode_l2))) 
  (.seq (.keep [12, 13]) (.seq (.regd [.op 0 (p 97 (.mov 13)), .op 1 (r 98 (.b2s 97)), .op 2 (p 99 (.mov 12)), .op 3 (p 100 (.nilck 99)), .op 4 (p 101 (.faddr 0 100)), .op 5 (p 102 (.faddr 
  1 101)), .op 6 (r 103 (.load none 102)), .op 7 (p 8 (.mov 98)), .op 8 (p 9 (.mov 103)), .op 9 (p 10 (.mov (.k (.int .i64 0))))]) .ret))))))))⟩

def lzw_reader_codes_1_l0 : MCode := (.seq (.keep [0, 1]) (.block 1 (.seq (.reg [r 6 (.load none 1), w 7 (.call (.k (.fn 275 [] [])) [6]), p 5 (.mov 7), p 8 (.extr 0 5), p 9 (.extr 
  1 5), p 3 (.mov 8), p 4 (.mov 9)]) (.seq (.seq (.reg [p 10 (.mov 4), p 11 (.un .not 10), p 12 (.mov 11), pg 13 12 false (.mov 0), rg 14 12 false (.load none 1), pg 15 12 false (.nilck 
  14), pg 16 12 false (.faddr 0 15), pg 17 12 false (.faddr 0 16), rg 18 12 false (.load none 17), pg 19 12 false (.mov 3), wg 20 12 false (.call 13 [18, 19]), pg 21 12 false (.un .not 
  20), p 22 (.pick 12 (.k (.bool true)) 21), p 23 (.mov 22), pg 24 23 false (.mov 3), pg 25 23 false (.bin .eql 24 (.k (.int .i64 257))), p 26 (.pick 23 (.k (.bool true)) 25)]) (.cond 
  26 .ret .skip)) (.seq (.keep [0, 1, 3]) (.reg [r 27 (.load none 1), p 28 (.nilck 27), p 29 (.faddr 0 28), p 30 (.mov 3), w 31 (.call (.k (.fn 266 [] [])) [29, 30])]))))))
def lzw_reader_codes_1 : MFun := ⟨2, [], (.block 0 (.loop lzw_reader_codes_1_l0))⟩

def fax_octets : MFun := ⟨1, [.t 2], (.seq (.reg [p 2 (.mov (.k (.int .i64 0)))]) (.seq (.reg [p 3 (.mov 0), p 4 (.bin .add 3 (.k (.int .i64 7))), p 5 (.bin .quo 4 (.k (.int .i64 8))), 
  p 2 (.mov 5)]) .ret))⟩

def fax_unpack_l0 : MCode := (.seq (.keep [0, 1, 4, 10, 11]) (.seq (.reg [p 12 (.bin .lss 11 10)]) (.seq (.cond 12 .skip (.exit 0)) (.seq (.block 1 (.seq (.reg [p 13 (.mov 11), p 6 
  (.mov 13)]) (.seq (.reg [p 14 (.mov 0), p 15 (.mov 6), p 16 (.bin .quo 15 (.k (.int .i64 8))), p 17 (.idxS 14 16), p 18 (.mov 6), p 19 (.bin .rem 18 (.k (.int .i64 8))), p 20 (.bin 
  .sub (.k (.int .i64 7)) 19), p 21 (.bin .shr 17 20), p 22 (.bin .and 21 (.k (.int .u8 1))), p 23 (.bin .eql 22 (.k (.int .u8 1))), p 7 (.mov 23)]) (.seq (.keep [0, 1, 4, 6, 7, 10, 11]) 
  (.seq (.seq (.reg [p 24 (.mov 6), p 25 (.mov 1), p 26 (.bin .geq 24 25)]) (.cond 26 (.seq (.seq (.reg [p 27 (.mov 7)]) (.cond 27 (.seq (.reg [r 28 (.load (some 128) 4), w0 (.store 128 
  4 28), p 5 (.mov (.k (.bool false)))]) .ret) .skip)) (.exit 1)) .skip)) (.reg [p 29 (.mov 6), p 30 (.mov 7), p 31 (.iaddrA 128 1 4 29), w0 (.store 1 31 30)])))))) (.seq (.keep [0, 1, 
  4, 10, 11]) (.reg [p 32 (.bin .add 11 (.k (.int .i64 1))), p 11 (.mov 32)]))))))
def fax_unpack : MFun := ⟨2, [.cell 4 (some 128), .t 5], (.seq (.reg [n 4 (.alloc 54 true (List.replicate 128 (.bool false))), p 5 (.mov (.k (.bool false)))]) (.seq (.seq (.reg [p 8 
  (.mov 0), p 9 (.lenOf true 8), p 10 (.bin .mul (.k (.int .i64 8)) 9), p 11 (.mov (.k (.int .i64 0)))]) (.block 0 (.loop fax_unpack_l0))) (.seq (.keep [4]) (.seq (.reg [r 33 (.load (some 
  128) 4), w0 (.store 128 4 33), p 5 (.mov (.k (.bool true)))]) .ret))))⟩

def fax_writer_put_l0 : MCode := (.seq (.keep [0, 5, 6, 7, 8, 9]) (.seq (.seq (.reg [p 16 (.mov 6), p 17 (.bin .geq 16 (.k (.int .i64 0)))]) (.cond 17 .skip (.exit 2))) (.seq (.block 
  3 (.seq (.seq (.reg [p 20 (.mov 0), p 21 (.nilck 20), p 22 (.faddr 1 21), r 23 (.load none 22), p 24 (.bin .rem 23 (.k (.int .i64 8))), p 25 (.bin .eql 24 (.k (.int .i64 0)))]) (.cond 
  25 (.reg [p 26 (.mov 0), p 27 (.mov 0), p 28 (.nilck 27), p 29 (.faddr 0 28), r 30 (.load none 29), n 31 (.buildSl 5 1 [(.int .u8 0)] [(0, 1, (.k (.int .u8 0)))]), w 32 (.append 5 1 
  1 [(.int .u8 0)] 30 31), p 33 (.nilck 26), p 34 (.faddr 0 33), w0 (.store 1 34 32)]) .skip)) (.seq (.keep [0, 5, 6, 7, 8, 9]) (.seq (.regd [.op 0 (p 35 (.mov 0)), .op 1 (p 36 (.nilck 
  35)), .op 2 (p 37 (.faddr 0 36)), .op 3 (r 38 (.load none 37)), .op 4 (p 39 (.mov 0)), .op 5 (p 40 (.nilck 39)), .op 6 (p 41 (.faddr 1 40)), .op 7 (r 42 (.load none 41)), .op 8 (p 43 
  (.bin .quo 42 (.k (.int .i64 8)))), .op 9 (p 44 (.iaddrS 1 38 43)), .op 10 (r 45 (.load none 44)), .op 11 (p 46 (.iaddrA 2 1 5 (.k (.int .i64 0)))), .op 12 (r 47 (.load none 46)), .op 
  17 (p 52 (.mov 0)), .op 18 (p 53 (.nilck 52)), .op 19 (p 54 (.faddr 1 53)), .op 20 (r 55 (.load none 54)), .op 13 (p 48 (.mov 6)), .op 14 (p 49 (.bin .shr 47 48)), .op 15 (p 50 (.bin 
  .and 49 (.k (.int .i64 1)))), .op 16 (p 51 (.conv .u8 50)), .op 21 (p 56 (.bin .rem 55 (.k (.int .i64 8)))), .op 22 (p 57 (.bin .sub (.k (.int .i64 7)) 56)), .op 23 (p 58 (.bin .shl 
  51 57)), .op 24 (p 59 (.bin .or 45 58)), .op 25 (p 60 (.iaddrS 1 38 43)), .op 26 (w0 (.store 1 60 59))]) (.seq (.keep [0, 5, 6, 7, 8, 9]) (.reg [p 61 (.mov 0), p 62 (.nilck 61), p 63 
  (.faddr 1 62), r 64 (.load none 63), p 65 (.bin .add 64 (.k (.int .i64 1))), p 66 (.nilck 61), p 67 (.faddr 1 66), w0 (.store 1 67 65)])))))) (.seq (.keep [0, 5, 6, 7, 8, 9]) (.reg 
  [p 18 (.mov 6), p 19 (.bin .sub 18 (.k (.int .i64 1))), p 6 (.mov 19)])))))
def fax_writer_put_l1 : MCode := (.seq (.keep [0, 7, 8, 9]) (.seq (.reg [p 10 (.bin .lss 9 8)]) (.seq (.cond 10 .skip (.exit 0)) (.seq (.block 1 (.seq (.reg [p 11 (.iaddrS 2 7 9), r 
  12 (.load (some 2) 11), n 5 (.alloc 62 true [(.int .i64 0), (.int .i64 0)]), w0 (.store 2 5 12)]) (.seq (.reg [p 13 (.iaddrA 2 1 5 (.k (.int .i64 1))), r 14 (.load none 13), p 15 (.bin 
  .sub 14 (.k (.int .i64 1))), p 6 (.mov 15)]) (.block 2 (.loop fax_writer_put_l0))))) (.seq (.keep [0, 7, 8, 9]) (.reg [p 68 (.bin .add 9 (.k (.int .i64 1))), p 9 (.mov 68)]))))))
def fax_writer_put : MFun := ⟨2, [], (.seq (.reg [p 7 (.mov 1), p 8 (.lenOf false 7), p 9 (.mov (.k (.int .i64 0)))]) (.block 0 (.loop fax_writer_put_l1)))⟩

def fax_coder_write_l0 : MCode := (.seq (.keep [0, 1]) (.seq (.seq (.regd [.op 0 (p 14 (.mov 0)), .op 1 (p 15 (.nilck 14)), .op 2 (p 16 (.faddr 257 15)), .op 3 (r 17 (.load none 16)), 
  .op 4 (p 18 (.mov 0)), .op 5 (p 19 (.nilck 18)), .op 6 (p 20 (.faddr 256 19)), .op 7 (r 21 (.load none 20)), .op 8 (p 22 (.bin .lss 17 21))]) (.cond 22 .skip (.exit 0))) (.seq (.keep 
  [0, 1]) (.block 1 (.seq (.reg [p 24 (.mov 0), w 25 (.call (.k (.fn 28 [] [])) [24]), p 23 (.mov 25), p 26 (.extr 0 23), p 27 (.extr 1 23), p 4 (.mov 26), p 5 (.mov 27)]) (.seq (.reg 
  [p 29 (.mov 0), w 30 (.call (.k (.fn 29 [] [])) [29]), p 28 (.mov 30), p 31 (.extr 0 28), p 32 (.extr 1 28), p 6 (.mov 31), p 7 (.mov 32)]) (.block 2 (.seq (.reg [p 54 (.mov 5), p 55 
  (.mov 6), p 56 (.bin .lss 54 55), p 53 (.mov 56)]) (.cond 53 (.seq (.reg [p 57 (.mov 1), p 58 (.build [(.int .i64 0), (.int .i64 0)] [(0, 1, (.k (.int .i64 1))), (1, 1, (.k (.int .i64 
  4)))]), n 59 (.buildSl 62 1 [(.int .i64 0), (.int .i64 0)] [(0, 2, 58)]), w 60 (.call (.k (.fn 18 [] [])) [57, 59])]) (.reg [p 61 (.mov 0), p 62 (.mov 5), p 63 (.nilck 61), p 64 (.faddr 
  257 63), w0 (.store 1 64 62)])) (.seq (.reg [p 66 (.mov 6), p 67 (.mov 4), p 68 (.bin .sub 66 67), p 69 (.bin .geq 68 (.k (.int .i64 (-3)))), p 70 (.mov 69), pg 71 70 true (.mov 6), 
  pg 72 70 true (.mov 4), pg 73 70 true (.bin .sub 71 72), pg 74 70 true (.bin .leq 73 (.k (.int .i64 3))), p 75 (.pick 70 74 (.k (.bool false))), p 65 (.mov 75)]) (.seq (.keep [0, 1, 
  4, 6, 7, 65]) (.cond 65 (.seq (.reg [p 76 (.mov 1), p 77 (.mov 6), p 78 (.mov 4), p 79 (.bin .sub 77 78), w 80 (.call (.k (.fn 30 [] [])) [79]), n 81 (.buildSl 62 1 [(.int .i64 0), 
  (.int .i64 0)] [(0, 2, 80)]), w 82 (.call (.k (.fn 18 [] [])) [76, 81])]) (.reg [p 83 (.mov 0), p 84 (.mov 0), p 85 (.mov 6), p 86 (.mov 0), p 87 (.nilck 86), p 88 (.faddr 258 87), 
  r 89 (.load none 88), p 90 (.un .not 89), p 91 (.nilck 83), p 92 (.faddr 257 91), w0 (.store 1 92 85), p 93 (.nilck 84), p 94 (.faddr 258 93), w0 (.store 1 94 90)])) (.seq (.reg [p 
  33 (.mov 1), p 34 (.build [(.int .i64 0), (.int .i64 0)] [(0, 1, (.k (.int .i64 1))), (1, 1, (.k (.int .i64 3)))]), p 35 (.mov 6), p 36 (.mov 0), p 37 (.nilck 36), p 38 (.faddr 257 
  37), r 39 (.load none 38), p 40 (.minmax true [39, (.k (.int .i64 0))]), p 41 (.bin .sub 35 40), w 42 (.call (.k (.fn 31 [] [])) [41]), p 43 (.mov 7), p 44 (.mov 6), p 45 (.bin .sub 
  43 44), w 46 (.call (.k (.fn 31 [] [])) [45]), n 47 (.buildSl 62 3 [(.int .i64 0), (.int .i64 0), (.int .i64 0), (.int .i64 0), (.int .i64 0), (.int .i64 0)] [(0, 2, 34), (2, 2, 42), 
  (4, 2, 46)]), w 48 (.call (.k (.fn 18 [] [])) [33, 47])]) (.seq (.keep [0, 1, 7]) (.reg [p 49 (.mov 0), p 50 (.mov 7), p 51 (.nilck 49), p 52 (.faddr 257 51), w0 (.store 1 52 50)])))))))))))))))
def fax_coder_write : MFun := ⟨2, [], (.seq (.reg [p 8 (.mov 0), p 9 (.mov 0), p 10 (.nilck 8), p 11 (.faddr 257 10), w0 (.store 1 11 (.k (.int .i64 (-1)))), p 12 (.nilck 9), p 13 (.faddr 
  258 12), w0 (.store 1 13 (.k (.bool false)))]) (.seq (.keep [0, 1]) (.block 0 (.loop fax_coder_write_l0))))⟩

def fax_filler_next_l0 : MCode := (.seq (.keep [1]) (.seq (.seq (.regd [.op 0 (p 21 (.faddr 0 1)), .op 1 (r 22 (.load none 21)), .op 2 (p 23 (.nilck 22)), .op 3 (p 24 (.faddr 257 23)), 
  .op 4 (r 25 (.load none 24)), .op 5 (p 26 (.faddr 0 1)), .op 6 (r 27 (.load none 26)), .op 7 (p 28 (.nilck 27)), .op 8 (p 29 (.faddr 256 28)), .op 9 (r 30 (.load none 29)), .op 10 (p 
  31 (.bin .lss 25 30))]) (.cond 31 .skip (.exit 0))) (.seq (.keep [1]) (.block 1 (.seq (.reg [p 32 (.faddr 1 1), r 33 (.load none 32), w 34 (.call (.k (.fn 36 [] [])) [33]), p 4 (.mov 
  34)]) (.seq (.seq (.reg [p 35 (.faddr 1 1), r 36 (.load none 35), p 37 (.nilck 36), p 38 (.faddr 2 37), r 39 (.load none 38)]) (.cond 39 (.seq (.reg [p 2 (.mov (.k (.bool false))), 
  p 3 (.mov (.k (.bool false)))]) .ret) .skip)) (.seq (.seq (.reg [p 40 (.mov 4), p 41 (.bin .eql 40 (.k (.int .i64 7))), p 42 (.mov 41), pg 43 42 true (.faddr 0 1), rg 44 42 true (.load 
  none 43), pg 45 42 true (.nilck 44), pg 46 42 true (.faddr 257 45), rg 47 42 true (.load none 46), pg 48 42 true (.bin .lss 47 (.k (.int .i64 0))), p 49 (.pick 42 48 (.k (.bool false)))]) 
  (.seq (.keep [1, 4, 49]) (.cond 49 (.seq (.reg [p 2 (.mov (.k (.bool true))), p 3 (.mov (.k (.bool false)))]) .ret) .skip))) (.seq (.keep [1, 4]) (.seq (.reg [w 51 (.call (.k (.fn 37 
  [] [])) []), p 52 (.mov 4), r 53 (.lookup (.i .i64) .nilfn true 51 52), p 50 (.mov 53), p 54 (.extr 0 50), p 55 (.extr 1 50), p 5 (.mov 54), p 6 (.mov 55)]) (.seq (.keep [1, 5, 6]) 
  (.seq (.reg [p 56 (.mov 6), p 57 (.un .not 56), p 58 (.mov 57), pg 59 58 false (.mov 5), rg 60 58 false (.load (some 2) 1), wg 61 58 false (.call 59 [60]), pg 62 58 false (.un .not 
  61), p 63 (.pick 58 (.k (.bool true)) 62), p 64 (.mov 63), pg 65 64 false (.faddr 1 1), rg 66 64 false (.load none 65), pg 67 64 false (.nilck 66), pg 68 64 false (.faddr 2 67), rg 
  69 64 false (.load none 68), p 70 (.pick 64 (.k (.bool true)) 69)]) (.seq (.keep [1, 70]) (.cond 70 (.seq (.reg [p 2 (.mov (.k (.bool false))), p 3 (.mov (.k (.bool false)))]) .ret) 
  .skip)))))))))))))
def fax_filler_next : MFun := ⟨1, [.t 2, .t 3], (.seq (.reg [n 1 (.box 73 true 0), p 2 (.mov (.k (.bool false))), p 3 (.mov (.k (.bool false)))]) (.seq (.reg [p 7 (.faddr 0 1), r 8 
  (.load none 7), p 9 (.build (List.replicate 128 (.bool false)) []), p 10 (.nilck 8), p 11 (.faddr 0 10), p 12 (.faddr 0 11), w0 (.store 128 12 9)]) (.seq (.seq (.regd [.op 0 (p 13 (.faddr 
  0 1)), .op 1 (r 14 (.load none 13)), .op 2 (p 15 (.faddr 0 1)), .op 3 (r 16 (.load none 15)), .op 4 (p 17 (.nilck 14)), .op 5 (p 18 (.faddr 257 17)), .op 6 (w0 (.store 1 18 (.k (.int 
  .i64 (-1))))), .re 3, .op 7 (p 19 (.nilck 16)), .op 8 (p 20 (.faddr 258 19)), .op 9 (w0 (.store 1 20 (.k (.bool false))))]) (.seq (.keep [1]) (.block 0 (.loop fax_filler_next_l0)))) 
  (.seq (.keep []) (.seq (.reg [p 2 (.mov (.k (.bool false))), p 3 (.mov (.k (.bool true)))]) .ret)))))⟩

def fax_reader_bit : MFun := ⟨1, [.t 2], (.seq (.reg [p 2 (.mov (.k (.int .i64 0)))]) (.seq (.seq (.regd [.op 0 (p 3 (.mov 0)), .op 1 (p 4 (.nilck 3)), .op 2 (p 5 (.faddr 1 4)), .op 
  3 (r 6 (.load none 5)), .op 4 (p 7 (.mov 0)), .op 5 (p 8 (.nilck 7)), .op 6 (p 9 (.faddr 0 8)), .op 7 (r 10 (.load none 9)), .op 8 (p 11 (.lenOf true 10)), .op 9 (p 12 (.bin .mul (.k 
  (.int .i64 8)) 11)), .op 10 (p 13 (.bin .geq 6 12))]) (.seq (.keep [0, 13]) (.cond 13 (.seq (.reg [p 14 (.mov 0), p 15 (.nilck 14), p 16 (.faddr 2 15), w0 (.store 1 16 (.k (.bool true)))]) 
  (.seq (.reg [p 2 (.mov (.k (.int .i64 0)))]) .ret)) .skip))) (.seq (.keep [0]) (.seq (.reg [p 17 (.mov 0), p 18 (.nilck 17), p 19 (.faddr 1 18), r 20 (.load none 19), p 21 (.bin .add 
  20 (.k (.int .i64 1))), p 22 (.nilck 17), p 23 (.faddr 1 22), w0 (.store 1 23 21)]) (.seq (.keep [0]) (.seq (.regd [.op 0 (p 24 (.mov 0)), .op 1 (p 25 (.nilck 24)), .op 2 (p 26 (.faddr 
  0 25)), .op 3 (r 27 (.load none 26)), .op 4 (p 28 (.mov 0)), .op 5 (p 29 (.nilck 28)), .op 6 (p 30 (.faddr 1 29)), .op 7 (r 31 (.load none 30)), .op 12 (p 36 (.mov 0)), .op 13 (p 37 
  (.nilck 36)), .op 14 (p 38 (.faddr 1 37)), .op 15 (r 39 (.load none 38)), .op 8 (p 32 (.bin .sub 31 (.k (.int .i64 1)))), .op 9 (p 33 (.bin .quo 32 (.k (.int .i64 8)))), .op 10 (p 34 
  (.idxS 27 33)), .op 11 (p 35 (.conv .i64 34)), .op 16 (p 40 (.bin .sub 39 (.k (.int .i64 1)))), .op 17 (p 41 (.bin .rem 40 (.k (.int .i64 8)))), .op 18 (p 42 (.bin .sub (.k (.int .i64 
  7)) 41)), .op 19 (p 43 (.bin .shr 35 42)), .op 20 (p 44 (.bin .and 43 (.k (.int .i64 1)))), .op 21 (p 2 (.mov 44))]) .ret))))))⟩

def cosine_sized : MFun := ⟨4, [.t 8], (.seq (.reg [p 8 (.mov (.k (.int .i64 0)))]) (.seq (.seq (.reg [p 9 (.mov 0), p 10 (.lenOf true 9), p 11 (.bin .gtr 10 (.k (.int .i64 65536)))]) 
  (.cond 11 (.seq (.reg [p 8 (.mov (.k (.int .i64 3)))]) .ret) .skip)) (.seq (.seq (.reg [p 12 (.mov 1), p 13 (.bin .lss 12 (.k (.int .i64 1))), p 14 (.mov 13), pg 15 14 false (.mov 1), 
  pg 16 14 false (.bin .gtr 15 (.k (.int .i64 128))), p 17 (.pick 14 (.k (.bool true)) 16), p 18 (.mov 17), pg 19 18 false (.mov 2), pg 20 18 false (.bin .lss 19 (.k (.int .i64 1))), 
  p 21 (.pick 18 (.k (.bool true)) 20), p 22 (.mov 21), pg 23 22 false (.mov 2), pg 24 22 false (.bin .gtr 23 (.k (.int .i64 128))), p 25 (.pick 22 (.k (.bool true)) 24), p 26 (.mov 25), 
  pg 27 26 false (.mov 3), pg 28 26 false (.bin .lss 27 (.k (.int .i64 1))), p 29 (.pick 26 (.k (.bool true)) 28), p 30 (.mov 29), pg 31 30 false (.mov 3), pg 32 30 false (.bin .gtr 31 
  (.k (.int .i64 255))), p 33 (.pick 30 (.k (.bool true)) 32)]) (.seq (.keep [33]) (.cond 33 (.seq (.reg [p 8 (.mov (.k (.int .i64 2)))]) .ret) .skip))) (.seq (.keep []) (.seq (.reg [p 
  8 (.mov (.k (.int .i64 0)))]) .ret)))))⟩

def cosine_block_l0 : MCode := (.seq (.keep [1, 5, 7, 8, 17, 18]) (.seq (.reg [p 19 (.bin .lss 18 (.k (.int .i64 64)))]) (.seq (.cond 19 .skip (.exit 0)) (.seq (.block 1 (.seq (.reg 
  [p 20 (.idxA 64 1 none 17 18), p 10 (.mov 20)]) (.seq (.reg [p 21 (.mov 10), p 22 (.iaddrA 64 1 5 21), r 23 (.load none 22), p 24 (.bin .mul (.k (.int .i64 2)) 23), p 25 (.mov 1), p 
  26 (.bin .add 24 25), p 27 (.mov 1), p 28 (.bin .mul (.k (.int .i64 2)) 27), w 29 (.call (.k (.fn 278 [] [])) [26, 28]), p 11 (.mov 29)]) (.seq (.keep [1, 5, 7, 8, 11, 17, 18]) (.seq 
  (.seq (.reg [p 30 (.mov 11), p 31 (.bin .eql 30 (.k (.int .i64 0)))]) (.cond 31 (.seq (.reg [p 32 (.mov 8), p 33 (.bin .add 32 (.k (.int .i64 1))), p 8 (.mov 33)]) (.exit 1)) .skip)) 
  (.seq (.reg [p 34 (.mov 7), p 35 (.mov 8), p 36 (.conv .u8 35), n 37 (.buildSl 5 1 [(.int .u8 0)] [(0, 1, 36)]), w 38 (.append 5 1 1 [(.int .u8 0)] 34 37), p 39 (.mov 11), w 40 (.call 
  (.k (.fn 279 [] [])) [39]), w 41 (.append 5 1 1 [(.int .u8 0)] 38 40), p 7 (.mov 41)]) (.seq (.keep [1, 5, 7, 17, 18]) (.reg [p 8 (.mov (.k (.int .i64 0)))])))))))) (.seq (.keep [1, 
  5, 7, 8, 17, 18]) (.reg [p 42 (.bin .add 18 (.k (.int .i64 1))), p 18 (.mov 42)]))))))
def cosine_block : MFun := ⟨2, [.t 4], (.seq (.reg [n 2 (.box 376 true 0), p 4 (.mov (.k .nilslice))]) (.seq (.reg [r 13 (.load (some 64) 2), w 14 (.call (.k (.fn 276 [] [])) [13]), 
  p 12 (.mov 14), p 15 (.extr 0 12), p 16 (.extr 1 12), n 5 (.alloc 376 true (List.replicate 64 (.int .i64 0))), w0 (.store 64 5 15), p 6 (.mov 16)]) (.seq (.keep [1, 5]) (.seq (.reg 
  [p 7 (.mov (.k .nilslice))]) (.seq (.reg [p 8 (.mov (.k (.int .i64 0)))]) (.seq (.seq (.reg [w 17 (.call (.k (.fn 277 [] [])) []), p 18 (.mov (.k (.int .i64 0)))]) (.block 0 (.loop 
  cosine_block_l0))) (.seq (.keep [7]) (.seq (.reg [p 43 (.mov 7), n 44 (.buildSl 5 1 [(.int .u8 0)] [(0, 1, (.k (.int .u8 64)))]), w 45 (.append 5 1 1 [(.int .u8 0)] 43 44), p 4 (.mov 
  45)]) .ret))))))))⟩

def cosine_reader_block_l0 : MCode := (.seq (.keep [0, 1, 4, 6, 7]) (.block 1 (.seq (.reg [p 11 (.mov 0), w 12 (.call (.k (.fn 280 [] [])) [11]), p 8 (.mov 12)]) (.seq (.seq (.reg [p 
  13 (.mov 8), p 14 (.bin .eql 13 (.k (.int .i64 64)))]) (.cond 14 (.seq (.reg [r 15 (.load (some 64) 4), w0 (.store 64 4 15), p 5 (.mov (.k (.bool true)))]) .ret) .skip)) (.seq (.seq 
  (.reg [p 16 (.mov 8), p 17 (.bin .lss 16 (.k (.int .i64 0))), p 18 (.mov 17), pg 19 18 false (.mov 8), pg 20 18 false (.bin .gtr 19 (.k (.int .i64 64))), p 21 (.pick 18 (.k (.bool true)) 
  20), p 22 (.mov 21), pg 23 22 false (.mov 7), pg 24 22 false (.mov 8), pg 25 22 false (.bin .add 23 24), pg 26 22 false (.bin .geq 25 (.k (.int .i64 64))), p 27 (.pick 22 (.k (.bool 
  true)) 26)]) (.seq (.keep [0, 1, 4, 6, 7, 8, 27]) (.cond 27 (.seq (.reg [r 28 (.load (some 64) 4), w0 (.store 64 4 28), p 5 (.mov (.k (.bool false)))]) .ret) .skip))) (.seq (.keep [0, 
  1, 4, 6, 7, 8]) (.seq (.reg [p 29 (.mov 0), w 30 (.call (.k (.fn 281 [] [])) [29]), p 9 (.mov 30)]) (.seq (.seq (.reg [p 31 (.mov 9), p 32 (.bin .eql 31 (.k (.int .i64 0)))]) (.cond 
  32 (.seq (.reg [r 33 (.load (some 64) 4), w0 (.store 64 4 33), p 5 (.mov (.k (.bool false)))]) .ret) .skip)) (.seq (.reg [p 34 (.mov 7), p 35 (.mov 8), p 36 (.bin .add 34 35), p 37 
  (.iaddrA 64 1 6 36), r 38 (.load none 37), p 39 (.mov 9), p 40 (.mov 1), p 41 (.bin .mul 39 40), p 42 (.iaddrA 64 1 4 38), w0 (.store 1 42 41)]) (.seq (.keep [0, 1, 4, 6, 7, 8]) (.reg 
  [p 43 (.mov 7), p 44 (.mov 8), p 45 (.bin .add 44 (.k (.int .i64 1))), p 46 (.bin .add 43 45), p 7 (.mov 46)])))))))))))
def cosine_reader_block : MFun := ⟨2, [.cell 4 (some 64), .t 5], (.seq (.reg [n 4 (.alloc 376 true (List.replicate 64 (.int .i64 0))), p 5 (.mov (.k (.bool false)))]) (.seq (.reg [w 
  10 (.call (.k (.fn 277 [] [])) []), n 6 (.alloc 376 true (List.replicate 64 (.int .i64 0))), w0 (.store 64 6 10), p 7 (.mov (.k (.int .i64 0)))]) (.block 0 (.loop cosine_reader_block_l0))))⟩

def cosine_Inverse_l0 : MCode := (.seq (.keep [1, 2, 4, 5, 6, 17]) (.seq (.reg [p 18 (.bin .lss 17 (.k (.int .i64 8)))]) (.seq (.cond 18 .skip (.exit 0)) (.seq (.block 1 (.seq (.reg 
  [p 19 (.mov 17), p 7 (.mov 19)]) (.reg [p 20 (.mov 7), p 21 (.mov 7), w 22 (.call (.k (.fn 283 [] [])) [21]), p 23 (.bin .quo (.k (.int .i64 8840)) 22), p 24 (.iaddrA 8 1 6 20), w0 
  (.store 1 24 23)]))) (.seq (.keep [1, 2, 4, 5, 6, 17]) (.reg [p 25 (.bin .add 17 (.k (.int .i64 1))), p 17 (.mov 25)]))))))
def cosine_Inverse_l1 : MCode := (.seq (.keep [1, 2, 4, 5, 6, 8, 26, 29]) (.seq (.reg [p 30 (.bin .lss 29 (.k (.int .i64 8)))]) (.seq (.cond 30 .skip (.exit 4)) (.seq (.block 5 (.seq 
  (.reg [p 31 (.mov 29), n 9 (.alloc 3 true [(.int .i64 0)]), w0 (.store 1 9 31)]) (.regd [.op 0 (r 32 (.load none 8)), .op 2 (r 34 (.load none 9)), .op 4 (p 36 (.mkfn 284 [] [9, 6, 1, 
  8])), .op 5 (w 37 (.call (.k (.fn 285 [] [])) [(.k (.int .i64 8)), 36])), .re 0, .re 2, .op 1 (p 33 (.bin .mul (.k (.int .i64 8)) 32)), .op 3 (p 35 (.bin .add 33 34)), .op 6 (p 38 (.iaddrA 
  64 1 4 35)), .op 7 (w0 (.store 1 38 37))]))) (.seq (.keep [1, 2, 4, 5, 6, 8, 26, 29]) (.reg [p 39 (.bin .add 29 (.k (.int .i64 1))), p 29 (.mov 39)]))))))
def cosine_Inverse_l2 : MCode := (.seq (.keep [1, 2, 4, 5, 6, 26]) (.seq (.reg [p 27 (.bin .lss 26 (.k (.int .i64 8)))]) (.seq (.cond 27 .skip (.exit 2)) (.seq (.block 3 (.seq (.reg 
  [p 28 (.mov 26), n 8 (.alloc 3 true [(.int .i64 0)]), w0 (.store 1 8 28)]) (.seq (.reg [p 29 (.mov (.k (.int .i64 0)))]) (.block 4 (.loop cosine_Inverse_l1))))) (.seq (.keep [1, 2, 
  4, 5, 6, 26]) (.reg [p 40 (.bin .add 26 (.k (.int .i64 1))), p 26 (.mov 40)]))))))
def cosine_Inverse_l3 : MCode := (.seq (.keep [2, 4, 5, 6, 10, 41, 44]) (.seq (.reg [p 45 (.bin .lss 44 (.k (.int .i64 8)))]) (.seq (.cond 45 .skip (.exit 8)) (.seq (.block 9 (.seq 
  (.reg [p 46 (.mov 44), n 11 (.alloc 3 true [(.int .i64 0)]), w0 (.store 1 11 46)]) (.seq (.reg [p 47 (.mkfn 286 [] [10, 6, 4, 11]), w 48 (.call (.k (.fn 285 [] [])) [(.k (.int .i64 
  8)), 47]), p 12 (.mov 48)]) (.regd [.op 0 (r 49 (.load none 10)), .op 2 (r 51 (.load none 11)), .op 4 (p 53 (.mov 12)), .op 5 (p 54 (.bin .mul (.k (.int .i64 2)) 53)), .op 6 (p 55 (.bin 
  .add 54 (.k (.int .i64 78145600)))), .op 7 (w 56 (.call (.k (.fn 278 [] [])) [55, (.k (.int .i64 156291200))])), .re 0, .re 2, .op 1 (p 50 (.bin .mul (.k (.int .i64 8)) 49)), .op 3 
  (p 52 (.bin .add 50 51)), .op 8 (p 57 (.iaddrA 64 1 5 52)), .op 9 (w0 (.store 1 57 56))])))) (.seq (.keep [2, 4, 5, 6, 10, 41, 44]) (.reg [p 58 (.bin .add 44 (.k (.int .i64 1))), p 
  44 (.mov 58)]))))))
def cosine_Inverse_l4 : MCode := (.seq (.keep [2, 4, 5, 6, 41]) (.seq (.reg [p 42 (.bin .lss 41 (.k (.int .i64 8)))]) (.seq (.cond 42 .skip (.exit 6)) (.seq (.block 7 (.seq (.reg [p 
  43 (.mov 41), n 10 (.alloc 3 true [(.int .i64 0)]), w0 (.store 1 10 43)]) (.seq (.reg [p 44 (.mov (.k (.int .i64 0)))]) (.block 8 (.loop cosine_Inverse_l3))))) (.seq (.keep [2, 4, 5, 
  6, 41]) (.reg [p 59 (.bin .add 41 (.k (.int .i64 1))), p 41 (.mov 59)]))))))
def cosine_Inverse : MFun := ⟨1, [.cell 2 (some 64), .t 3], (.seq (.reg [n 1 (.box 376 true 0), n 2 (.alloc 376 true (List.replicate 64 (.int .i64 0))), p 3 (.mov (.k (.int .i64 0)))]) 
  (.seq (.reg [n 4 (.alloc 376 true (List.replicate 64 (.int .i64 0))), n 5 (.alloc 376 true (List.replicate 64 (.int .i64 0)))]) (.seq (.seq (.reg [r 13 (.load (some 64) 1), w 14 (.call 
  (.k (.fn 282 [] [])) [13, (.k (.int .i64 4294967296))]), p 15 (.un .not 14)]) (.cond 15 (.seq (.reg [r 16 (.load (some 64) 5), w0 (.store 64 2 16), p 3 (.mov (.k (.int .i64 2)))]) .ret) 
  .skip)) (.seq (.reg [n 6 (.alloc 422 true [(.int .i64 0), (.int .i64 0), (.int .i64 0), (.int .i64 0), (.int .i64 0), (.int .i64 0), (.int .i64 0), (.int .i64 0)])]) (.seq (.seq (.reg 
  [p 17 (.mov (.k (.int .i64 0)))]) (.block 0 (.loop cosine_Inverse_l0))) (.seq (.keep [1, 2, 4, 5, 6]) (.seq (.seq (.reg [p 26 (.mov (.k (.int .i64 0)))]) (.block 2 (.loop cosine_Inverse_l2))) 
  (.seq (.keep [2, 4, 5, 6]) (.seq (.seq (.reg [p 41 (.mov (.k (.int .i64 0)))]) (.block 6 (.loop cosine_Inverse_l4))) (.seq (.keep [2, 5]) (.seq (.reg [r 60 (.load (some 64) 5), w0 (.store 
  64 2 60), p 3 (.mov (.k (.int .i64 0)))]) .ret)))))))))))⟩

def lzw_reader_read_l0 : MCode := (.seq (.keep [0, 4]) (.seq (.seq (.reg [p 13 (.mov 0), p 14 (.nilck 13), p 15 (.faddr 4 14), r 16 (.load none 15), p 17 (.mov 4), p 18 (.bin .lss 16 
  17)]) (.cond 18 .skip (.exit 0))) (.block 1 (.seq (.seq (.regd [.op 0 (p 19 (.mov 0)), .op 1 (p 20 (.nilck 19)), .op 2 (p 21 (.faddr 2 20)), .op 3 (r 22 (.load none 21)), .op 4 (p 23 
  (.mov 0)), .op 5 (p 24 (.nilck 23)), .op 6 (p 25 (.faddr 1 24)), .op 7 (r 26 (.load none 25)), .op 8 (p 27 (.lenOf true 26)), .op 9 (p 28 (.bin .eql 22 27))]) (.seq (.keep [0, 4, 28]) 
  (.cond 28 (.seq (.reg [p 2 (.mov (.k (.int .i64 0))), p 3 (.mov (.k (.bool false)))]) .ret) .skip))) (.seq (.keep [0, 4]) (.seq (.regd [.op 1 (p 30 (.mov 0)), .op 2 (p 31 (.nilck 30)), 
  .op 3 (p 32 (.faddr 3 31)), .op 4 (r 33 (.load none 32)), .op 6 (p 35 (.mov 0)), .op 7 (p 36 (.nilck 35)), .op 8 (p 37 (.faddr 1 36)), .op 9 (r 38 (.load none 37)), .op 10 (p 39 (.mov 
  0)), .op 11 (p 40 (.nilck 39)), .op 12 (p 41 (.faddr 2 40)), .op 13 (r 42 (.load none 41)), .op 0 (p 29 (.mov 0)), .op 5 (p 34 (.bin .shl 33 (.k (.int .u64 8)))), .op 14 (p 43 (.idxS 
  38 42)), .op 15 (p 44 (.conv .u64 43)), .op 16 (p 45 (.bin .or 34 44)), .op 17 (p 46 (.nilck 29)), .op 18 (p 47 (.faddr 3 46)), .op 19 (w0 (.store 1 47 45))]) (.seq (.keep [0, 4]) (.seq 
  (.reg [p 48 (.mov 0), p 49 (.nilck 48), p 50 (.faddr 4 49), r 51 (.load none 50), p 52 (.bin .add 51 (.k (.int .i64 8))), p 53 (.nilck 48), p 54 (.faddr 4 53), w0 (.store 1 54 52)]) 
  (.seq (.keep [0, 4]) (.reg [p 55 (.mov 0), p 56 (.nilck 55), p 57 (.faddr 2 56), r 58 (.load none 57), p 59 (.bin .add 58 (.k (.int .i64 1))), p 60 (.nilck 55), p 61 (.faddr 2 60), 
  w0 (.store 1 61 59)]))))))))))
def lzw_reader_read : MFun := ⟨1, [.t 2, .t 3], (.seq (.reg [p 2 (.mov (.k (.int .i64 0))), p 3 (.mov (.k (.bool false)))]) (.seq (.reg [p 6 (.mov 0), p 7 (.nilck 6), p 8 (.faddr 0 
  7), r 9 (.load (some 1) 8), w 10 (.call (.k (.fn 265 [] [])) [9]), p 4 (.mov 10)]) (.seq (.seq (.reg [p 11 (.mov 4), p 12 (.bin .eql 11 (.k (.int .i64 0)))]) (.cond 12 (.seq (.reg [p 
  2 (.mov (.k (.int .i64 0))), p 3 (.mov (.k (.bool false)))]) .ret) .skip)) (.seq (.block 0 (.loop lzw_reader_read_l0)) (.seq (.keep [0, 4]) (.seq (.reg [p 62 (.mov 0), p 63 (.nilck 
  62), p 64 (.faddr 4 63), r 65 (.load none 64), p 66 (.mov 4), p 67 (.bin .sub 65 66), p 68 (.nilck 62), p 69 (.faddr 4 68), w0 (.store 1 69 67)]) (.seq (.keep [0]) (.seq (.regd [.op 
  0 (p 70 (.mov 0)), .op 1 (p 71 (.nilck 70)), .op 2 (p 72 (.faddr 3 71)), .op 3 (r 73 (.load none 72)), .op 4 (p 74 (.mov 0)), .op 5 (p 75 (.nilck 74)), .op 6 (p 76 (.faddr 4 75)), .op 
  7 (r 77 (.load none 76)), .op 8 (p 78 (.bin .shr 73 77)), .op 9 (p 79 (.conv .i64 78)), .op 10 (p 5 (.mov 79))]) (.seq (.keep [0, 5]) (.seq (.regd [.op 0 (p 80 (.mov 0)), .op 1 (p 81 
  (.nilck 80)), .op 2 (p 82 (.faddr 3 81)), .op 3 (r 83 (.load none 82)), .op 4 (p 84 (.mov 0)), .op 5 (p 85 (.nilck 84)), .op 6 (p 86 (.faddr 4 85)), .op 7 (r 87 (.load none 86)), .op 
  8 (p 88 (.bin .shl (.k (.int .u64 1)) 87)), .op 9 (p 89 (.bin .sub 88 (.k (.int .u64 1)))), .op 10 (p 90 (.bin .and 83 89)), .op 11 (p 91 (.nilck 80)), .op 12 (p 92 (.faddr 3 91)), 
  .op 13 (w0 (.store 1 92 90))]) (.seq (.keep [5]) (.seq (.reg [p 93 (.mov 5), p 2 (.mov 93), p 3 (.mov (.k (.bool true)))]) .ret))))))))))))⟩

def fax_coder_ahead : MFun := ⟨1, [.t 2, .t 3], (.seq (.reg [n 1 (.box 52 true 0), p 2 (.mov (.k (.int .i64 0))), p 3 (.mov (.k (.int .i64 0)))]) (.seq (.regd [.op 0 (r 4 (.load none 
  1)), .op 1 (p 5 (.nilck 4)), .op 2 (p 6 (.faddr 257 5)), .op 3 (r 7 (.load none 6)), .op 6 (r 10 (.load none 1)), .op 7 (p 11 (.nilck 10)), .op 8 (p 12 (.faddr 256 11)), .op 9 (r 13 
  (.load none 12)), .op 4 (p 8 (.bin .add 7 (.k (.int .i64 1)))), .op 5 (p 9 (.minmax true [8, (.k (.int .i64 0))])), .op 10 (p 14 (.mkfn 39 [] [1])), .op 11 (w 15 (.call (.k (.fn 40 
  [] [])) [9, 13, 14])), .op 12 (p 2 (.mov 15))]) (.seq (.keep [1, 2]) (.seq (.reg [p 16 (.mov 2), p 17 (.mov 2), p 18 (.bin .add 17 (.k (.int .i64 1))), r 19 (.load none 1), p 20 (.nilck 
  19), p 21 (.faddr 256 20), r 22 (.load none 21), p 23 (.mkfn 41 [] [1]), w 24 (.call (.k (.fn 40 [] [])) [18, 22, 23]), p 2 (.mov 16), p 3 (.mov 24)]) .ret))))⟩

def fax_coder_own : MFun := ⟨1, [.t 2, .t 3], (.seq (.reg [n 1 (.box 52 true 0), p 2 (.mov (.k (.int .i64 0))), p 3 (.mov (.k (.int .i64 0)))]) (.seq (.regd [.op 0 (r 4 (.load none 
  1)), .op 1 (p 5 (.nilck 4)), .op 2 (p 6 (.faddr 257 5)), .op 3 (r 7 (.load none 6)), .op 6 (r 10 (.load none 1)), .op 7 (p 11 (.nilck 10)), .op 8 (p 12 (.faddr 256 11)), .op 9 (r 13 
  (.load none 12)), .op 4 (p 8 (.bin .add 7 (.k (.int .i64 1)))), .op 5 (p 9 (.minmax true [8, (.k (.int .i64 0))])), .op 10 (p 14 (.mkfn 42 [] [1])), .op 11 (w 15 (.call (.k (.fn 40 
  [] [])) [9, 13, 14])), .op 12 (p 2 (.mov 15))]) (.seq (.keep [1, 2]) (.seq (.reg [p 16 (.mov 2), p 17 (.mov 2), p 18 (.bin .add 17 (.k (.int .i64 1))), r 19 (.load none 1), p 20 (.nilck 
  19), p 21 (.faddr 256 20), r 22 (.load none 21), p 23 (.mkfn 43 [] [1]), w 24 (.call (.k (.fn 40 [] [])) [18, 22, 23]), p 2 (.mov 16), p 3 (.mov 24)]) .ret))))⟩

def fax_vertical : MFun := ⟨1, [.cell 2 (some 2)], (.seq (.reg [n 2 (.alloc 62 true [(.int .i64 0), (.int .i64 0)])]) (.seq (.reg [p 3 (.build [(.int .i64 0), (.int .i64 0)] [(0, 1, 
  (.k (.int .i64 2))), (1, 1, (.k (.int .i64 7)))]), p 4 (.build [(.int .i64 0), (.int .i64 0)] [(0, 1, (.k (.int .i64 2))), (1, 1, (.k (.int .i64 6)))]), p 5 (.build [(.int .i64 0), 
  (.int .i64 0)] [(0, 1, (.k (.int .i64 2))), (1, 1, (.k (.int .i64 3)))]), p 6 (.build [(.int .i64 0), (.int .i64 0)] [(0, 1, (.k (.int .i64 1))), (1, 1, (.k (.int .i64 1)))]), p 7 (.build 
  [(.int .i64 0), (.int .i64 0)] [(0, 1, (.k (.int .i64 3))), (1, 1, (.k (.int .i64 3)))]), p 8 (.build [(.int .i64 0), (.int .i64 0)] [(0, 1, (.k (.int .i64 3))), (1, 1, (.k (.int .i64 
  6)))]), p 9 (.build [(.int .i64 0), (.int .i64 0)] [(0, 1, (.k (.int .i64 3))), (1, 1, (.k (.int .i64 7)))]), p 10 (.build (List.replicate 14 (.int .i64 0)) [(0, 2, 3), (2, 2, 4), (4, 
  2, 5), (6, 2, 6), (8, 2, 7), (10, 2, 8), (12, 2, 9)]), p 11 (.mov 0), p 12 (.bin .add 11 (.k (.int .i64 3))), p 13 (.idxA 7 2 (some 2) 10 12), w0 (.store 2 2 13)]) .ret))⟩

def fax_run : MFun := ⟨1, [.cell 2 (some 2)], (.seq (.reg [n 2 (.alloc 62 true [(.int .i64 0), (.int .i64 0)])]) (.seq (.reg [p 4 (.mov 0), p 5 (.bin .add 4 (.k (.int .i64 1))), p 6 
  (.conv .u64 5), w 7 (.call (.k (.fn 44 [] [])) [6]), p 8 (.bin .sub 7 (.k (.int .i64 1))), p 3 (.mov 8)]) (.seq (.reg [p 9 (.mov 0), p 10 (.bin .add 9 (.k (.int .i64 1))), p 11 (.mov 
  3), p 12 (.bin .mul (.k (.int .i64 2)) 11), p 13 (.bin .add 12 (.k (.int .i64 1))), p 14 (.build [(.int .i64 0), (.int .i64 0)] [(0, 1, 10), (1, 1, 13)]), w0 (.store 2 2 14)]) .ret)))⟩

def fax_reader_zeros_l0 : MCode := (.seq (.keep [0, 3]) (.seq (.seq (.reg [p 4 (.mov 3), p 5 (.bin .lss 4 (.k (.int .i64 8))), p 6 (.mov 5), pg 7 6 true (.mov 0), wg 8 6 true (.call 
  (.k (.fn 24 [] [])) [7]), pg 9 6 true (.bin .eql 8 (.k (.int .i64 0))), p 10 (.pick 6 9 (.k (.bool false))), p 11 (.mov 10), pg 12 11 true (.mov 0), pg 13 11 true (.nilck 12), pg 14 
  11 true (.faddr 2 13), rg 15 11 true (.load none 14), pg 16 11 true (.un .not 15), p 17 (.pick 11 16 (.k (.bool false)))]) (.cond 17 .skip (.exit 0))) (.seq (.keep [0, 3]) (.block 1 
  (.reg [p 18 (.mov 3), p 19 (.bin .add 18 (.k (.int .i64 1))), p 3 (.mov 19)])))))
def fax_reader_zeros : MFun := ⟨1, [.t 2], (.seq (.reg [p 2 (.mov (.k (.int .i64 0)))]) (.seq (.reg [p 3 (.mov (.k (.int .i64 0)))]) (.seq (.block 0 (.loop fax_reader_zeros_l0)) (.seq 
  (.keep [3]) (.seq (.reg [p 20 (.mov 3), p 2 (.mov 20)]) .ret)))))⟩

def fax_modes : MFun := ⟨0, [.t 0], (.seq (.reg [p 0 (.mov (.k .nilmap))]) (.seq (.reg [n 1 (.mkMap), w0 (.mput (.i .i64) 1 (.k (.int .i64 0)) (.k (.fn 46 [] []))), w0 (.mput (.i .i64) 
  1 (.k (.int .i64 1)) (.k (.fn 47 [] []))), w0 (.mput (.i .i64) 1 (.k (.int .i64 2)) (.k (.fn 48 [] []))), w0 (.mput (.i .i64) 1 (.k (.int .i64 3)) (.k (.fn 49 [] []))), w0 (.mput (.i 
  .i64) 1 (.k (.int .i64 4)) (.k (.fn 50 [] []))), w0 (.mput (.i .i64) 1 (.k (.int .i64 5)) (.k (.fn 51 [] []))), p 2 (.mov 1), p 0 (.mov 2)]) .ret))⟩

def cosine_Forward_l0 : MCode := (.seq (.keep [1, 2, 4, 5, 6, 14, 17]) (.seq (.reg [p 18 (.bin .lss 17 (.k (.int .i64 8)))]) (.seq (.cond 18 .skip (.exit 2)) (.seq (.block 3 (.seq (.reg 
  [p 19 (.mov 17), n 7 (.alloc 3 true [(.int .i64 0)]), w0 (.store 1 7 19)]) (.regd [.op 0 (r 20 (.load none 6)), .op 2 (r 22 (.load none 7)), .op 4 (p 24 (.mkfn 287 [] [7, 1, 6])), .op 
  5 (w 25 (.call (.k (.fn 285 [] [])) [(.k (.int .i64 8)), 24])), .re 0, .re 2, .op 1 (p 21 (.bin .mul (.k (.int .i64 8)) 20)), .op 3 (p 23 (.bin .add 21 22)), .op 6 (p 26 (.iaddrA 64 
  1 4 23)), .op 7 (w0 (.store 1 26 25))]))) (.seq (.keep [1, 2, 4, 5, 6, 14, 17]) (.reg [p 27 (.bin .add 17 (.k (.int .i64 1))), p 17 (.mov 27)]))))))
def cosine_Forward_l1 : MCode := (.seq (.keep [1, 2, 4, 5, 14]) (.seq (.reg [p 15 (.bin .lss 14 (.k (.int .i64 8)))]) (.seq (.cond 15 .skip (.exit 0)) (.seq (.block 1 (.seq (.reg [p 
  16 (.mov 14), n 6 (.alloc 3 true [(.int .i64 0)]), w0 (.store 1 6 16)]) (.seq (.reg [p 17 (.mov (.k (.int .i64 0)))]) (.block 2 (.loop cosine_Forward_l0))))) (.seq (.keep [1, 2, 4, 
  5, 14]) (.reg [p 28 (.bin .add 14 (.k (.int .i64 1))), p 14 (.mov 28)]))))))
def cosine_Forward_l2 : MCode := (.seq (.keep [2, 4, 5, 8, 29, 32]) (.seq (.reg [p 33 (.bin .lss 32 (.k (.int .i64 8)))]) (.seq (.cond 33 .skip (.exit 6)) (.seq (.block 7 (.seq (.reg 
  [p 34 (.mov 32), n 9 (.alloc 3 true [(.int .i64 0)]), w0 (.store 1 9 34)]) (.regd [.op 0 (r 35 (.load none 8)), .op 2 (r 37 (.load none 9)), .op 4 (p 39 (.mkfn 288 [] [8, 4, 9])), .op 
  5 (w 40 (.call (.k (.fn 285 [] [])) [(.k (.int .i64 8)), 39])), .re 0, .re 2, .op 1 (p 36 (.bin .mul (.k (.int .i64 8)) 35)), .op 3 (p 38 (.bin .add 36 37)), .op 6 (p 41 (.iaddrA 64 
  1 5 38)), .op 7 (w0 (.store 1 41 40))]))) (.seq (.keep [2, 4, 5, 8, 29, 32]) (.reg [p 42 (.bin .add 32 (.k (.int .i64 1))), p 32 (.mov 42)]))))))
def cosine_Forward_l3 : MCode := (.seq (.keep [2, 4, 5, 29]) (.seq (.reg [p 30 (.bin .lss 29 (.k (.int .i64 8)))]) (.seq (.cond 30 .skip (.exit 4)) (.seq (.block 5 (.seq (.reg [p 31 
  (.mov 29), n 8 (.alloc 3 true [(.int .i64 0)]), w0 (.store 1 8 31)]) (.seq (.reg [p 32 (.mov (.k (.int .i64 0)))]) (.block 6 (.loop cosine_Forward_l2))))) (.seq (.keep [2, 4, 5, 29]) 
  (.reg [p 43 (.bin .add 29 (.k (.int .i64 1))), p 29 (.mov 43)]))))))
def cosine_Forward : MFun := ⟨1, [.cell 2 (some 64), .t 3], (.seq (.reg [n 1 (.box 376 true 0), n 2 (.alloc 376 true (List.replicate 64 (.int .i64 0))), p 3 (.mov (.k (.int .i64 0)))]) 
  (.seq (.reg [n 4 (.alloc 376 true (List.replicate 64 (.int .i64 0))), n 5 (.alloc 376 true (List.replicate 64 (.int .i64 0)))]) (.seq (.seq (.reg [r 10 (.load (some 64) 1), w 11 (.call 
  (.k (.fn 282 [] [])) [10, (.k (.int .i64 1048576))]), p 12 (.un .not 11)]) (.cond 12 (.seq (.reg [r 13 (.load (some 64) 5), w0 (.store 64 2 13), p 3 (.mov (.k (.int .i64 2)))]) .ret) 
  .skip)) (.seq (.seq (.reg [p 14 (.mov (.k (.int .i64 0)))]) (.block 0 (.loop cosine_Forward_l1))) (.seq (.keep [2, 4, 5]) (.seq (.seq (.reg [p 29 (.mov (.k (.int .i64 0)))]) (.block 
  4 (.loop cosine_Forward_l3))) (.seq (.keep [2, 5]) (.seq (.reg [r 44 (.load (some 64) 5), w0 (.store 64 2 44), p 3 (.mov (.k (.int .i64 0)))]) .ret))))))))⟩

def cosine_order_l0 : MCode := (.block 1 (.seq (.reg [r 8 (.load none 2), p 9 (.mov 3), p 10 (.bin .mul (.k (.int .i64 8)) 9), p 11 (.mov 4), p 12 (.bin .add 10 11), p 13 (.iaddrA 64 
  1 1 8), w0 (.store 1 13 12)]) (.reg [r 14 (.load none 2), p 15 (.bin .add 14 (.k (.int .i64 1))), w0 (.store 1 2 15)])))
def cosine_order : MFun := ⟨0, [.cell 0 (some 64)], (.seq (.reg [n 0 (.alloc 376 true (List.replicate 64 (.int .i64 0)))]) (.seq (.reg [n 1 (.alloc 376 true (List.replicate 64 (.int 
  .i64 0)))]) (.seq (.reg [n 2 (.alloc 3 true [(.int .i64 0)]), w0 (.store 1 2 (.k (.int .i64 0)))]) (.seq (.seq (.reg [w 5 (.call (.k (.fn 289 [] [])) [])]) (.block 0 (.rangeFunc 5 [6, 
  7] (.seq (.reg [p 3 (.mov 6)]) (.reg [p 4 (.mov 7)])) cosine_order_l0))) (.seq (.keep [0, 1]) (.seq (.reg [r 16 (.load (some 64) 1), w0 (.store 64 0 16)]) .ret))))))⟩

def cosine_floor : MFun := ⟨2, [.t 4], (.seq (.reg [p 4 (.mov (.k (.int .i64 0)))]) (.seq (.reg [p 6 (.mov 0), p 7 (.mov 1), p 8 (.bin .quo 6 7), p 5 (.mov 8)]) (.seq (.seq (.reg [p 
  9 (.mov 0), p 10 (.mov 1), p 11 (.bin .rem 9 10), p 12 (.bin .lss 11 (.k (.int .i64 0)))]) (.cond 12 (.reg [p 13 (.mov 5), p 14 (.bin .sub 13 (.k (.int .i64 1))), p 5 (.mov 14)]) .skip)) 
  (.seq (.reg [p 15 (.mov 5), p 4 (.mov 15)]) .ret))))⟩

def cosine_number_l0 : MCode := (.seq (.keep [3, 4]) (.seq (.seq (.reg [p 12 (.mov 3), p 13 (.bin .geq 12 (.k (.int .i64 128)))]) (.cond 13 .skip (.exit 0))) (.seq (.block 1 (.reg [p 
  16 (.mov 4), p 17 (.mov 3), p 18 (.bin .rem 17 (.k (.int .i64 128))), p 19 (.conv .u8 18), p 20 (.bin .add 19 (.k (.int .u8 128))), n 21 (.buildSl 5 1 [(.int .u8 0)] [(0, 1, 20)]), 
  w 22 (.append 5 1 1 [(.int .u8 0)] 16 21), p 4 (.mov 22)])) (.seq (.keep [3, 4]) (.reg [p 14 (.mov 3), p 15 (.bin .quo 14 (.k (.int .i64 128))), p 3 (.mov 15)])))))
def cosine_number : MFun := ⟨1, [.t 2], (.seq (.reg [p 2 (.mov (.k .nilslice))]) (.seq (.reg [p 5 (.mov 0), p 6 (.bin .mul (.k (.int .i64 2)) 5), p 3 (.mov 6)]) (.seq (.seq (.reg [p 
  7 (.mov 0), p 8 (.bin .lss 7 (.k (.int .i64 0)))]) (.cond 8 (.reg [p 9 (.mov 0), p 10 (.bin .mul (.k (.int .i64 (-2))) 9), p 11 (.bin .sub 10 (.k (.int .i64 1))), p 3 (.mov 11)]) .skip)) 
  (.seq (.reg [p 4 (.mov (.k .nilslice))]) (.seq (.block 0 (.loop cosine_number_l0)) (.seq (.keep [3, 4]) (.seq (.reg [p 23 (.mov 4), p 24 (.mov 3), p 25 (.conv .u8 24), n 26 (.buildSl 
  5 1 [(.int .u8 0)] [(0, 1, 25)]), w 27 (.append 5 1 1 [(.int .u8 0)] 23 26), p 2 (.mov 27)]) .ret)))))))⟩

def cosine_reader_octet : MFun := ⟨1, [.t 2], (.seq (.reg [p 2 (.mov (.k (.int .i64 0)))]) (.seq (.seq (.regd [.op 0 (p 3 (.mov 0)), .op 1 (p 4 (.nilck 3)), .op 2 (p 5 (.faddr 0 4)), 
  .op 3 (p 6 (.faddr 1 5)), .op 4 (r 7 (.load none 6)), .op 5 (p 8 (.mov 0)), .op 6 (p 9 (.nilck 8)), .op 7 (p 10 (.faddr 0 9)), .op 8 (p 11 (.faddr 0 10)), .op 9 (r 12 (.load none 11)), 
  .op 10 (p 13 (.lenOf true 12)), .op 11 (p 14 (.bin .eql 7 13))]) (.seq (.keep [0, 14]) (.cond 14 (.seq (.reg [p 2 (.mov (.k (.int .i64 (-1))))]) .ret) .skip))) (.seq (.keep [0]) (.seq 
  (.reg [p 15 (.mov 0), p 16 (.nilck 15), p 17 (.faddr 0 16), p 18 (.faddr 1 17), r 19 (.load none 18), p 20 (.bin .add 19 (.k (.int .i64 1))), p 21 (.nilck 15), p 22 (.faddr 0 21), p 
  23 (.faddr 1 22), w0 (.store 1 23 20)]) (.seq (.keep [0]) (.seq (.regd [.op 0 (p 24 (.mov 0)), .op 1 (p 25 (.nilck 24)), .op 2 (p 26 (.faddr 0 25)), .op 3 (p 27 (.faddr 0 26)), .op 
  4 (r 28 (.load none 27)), .op 5 (p 29 (.mov 0)), .op 6 (p 30 (.nilck 29)), .op 7 (p 31 (.faddr 0 30)), .op 8 (p 32 (.faddr 1 31)), .op 9 (r 33 (.load none 32)), .op 10 (p 34 (.bin .sub 
  33 (.k (.int .i64 1)))), .op 11 (p 35 (.idxS 28 34)), .op 12 (p 36 (.conv .i64 35)), .op 13 (p 2 (.mov 36))]) .ret))))))⟩

def cosine_reader_number_l0 : MCode := (.seq (.keep [3, 4, 5, 9]) (.seq (.reg [p 10 (.bin .lss 9 (.k (.int .i64 3)))]) (.seq (.cond 10 .skip (.exit 0)) (.seq (.block 1 (.seq (.reg [p 
  11 (.mov 5), w 12 (.call 11 []), p 6 (.mov 12)]) (.seq (.seq (.reg [p 13 (.mov 6), p 14 (.bin .lss 13 (.k (.int .i64 0)))]) (.cond 14 (.seq (.reg [p 2 (.mov (.k (.int .i64 0)))]) .ret) 
  .skip)) (.seq (.seq (.reg [p 15 (.mov 3), p 16 (.mov 6), p 17 (.bin .rem 16 (.k (.int .i64 128))), p 18 (.mov 4), p 19 (.bin .mul 17 18), p 20 (.bin .add 15 19), p 3 (.mov 20)]) (.seq 
  (.reg [p 21 (.mov 6), p 22 (.bin .lss 21 (.k (.int .i64 128)))]) (.cond 22 (.seq (.seq (.reg [p 23 (.mov 3), p 24 (.bin .rem 23 (.k (.int .i64 2))), p 25 (.bin .eql 24 (.k (.int .i64 
  1)))]) (.cond 25 (.seq (.reg [p 26 (.mov 3), p 27 (.bin .add 26 (.k (.int .i64 1))), p 28 (.un .neg 27), p 29 (.bin .quo 28 (.k (.int .i64 2))), p 2 (.mov 29)]) .ret) .skip)) (.seq 
  (.keep [3]) (.seq (.reg [p 30 (.mov 3), p 31 (.bin .quo 30 (.k (.int .i64 2))), p 2 (.mov 31)]) .ret))) .skip))) (.seq (.keep [3, 4, 5, 9]) (.reg [p 32 (.mov 4), p 33 (.bin .mul 32 
  (.k (.int .i64 128))), p 4 (.mov 33)])))))) (.seq (.keep [3, 4, 5, 9]) (.reg [p 34 (.bin .add 9 (.k (.int .i64 1))), p 9 (.mov 34)]))))))
def cosine_reader_number : MFun := ⟨1, [.t 2], (.seq (.reg [p 2 (.mov (.k (.int .i64 0)))]) (.seq (.reg [p 3 (.mov (.k (.int .i64 0))), p 4 (.mov (.k (.int .i64 1)))]) (.seq (.reg [p 
  7 (.mov 0), p 8 (.mkfn 280 [7] []), p 5 (.mov 8)]) (.seq (.seq (.reg [p 9 (.mov (.k (.int .i64 0)))]) (.block 0 (.loop cosine_reader_number_l0))) (.seq (.keep []) (.seq (.reg [p 2 (.mov 
  (.k (.int .i64 0)))]) .ret))))))⟩

def cosine_within_l0 : MCode := (.seq (.keep [1, 7, 8]) (.seq (.reg [p 9 (.bin .lss 8 (.k (.int .i64 64)))]) (.seq (.cond 9 .skip (.exit 0)) (.seq (.block 1 (.seq (.reg [p 10 (.idxA 
  64 1 none 7 8), p 6 (.mov 10)]) (.seq (.reg [p 11 (.mov 6), p 12 (.mov 1), p 13 (.un .neg 12), p 14 (.bin .lss 11 13), p 15 (.mov 14), pg 16 15 false (.mov 6), pg 17 15 false (.mov 
  1), pg 18 15 false (.bin .gtr 16 17), p 19 (.pick 15 (.k (.bool true)) 18)]) (.seq (.keep [1, 7, 8, 19]) (.cond 19 (.seq (.reg [p 4 (.mov (.k (.bool false)))]) .ret) .skip))))) (.seq 
  (.keep [1, 7, 8]) (.reg [p 20 (.bin .add 8 (.k (.int .i64 1))), p 8 (.mov 20)]))))))
def cosine_within : MFun := ⟨2, [.t 4], (.seq (.reg [n 2 (.box 376 true 0), p 4 (.mov (.k (.bool false)))]) (.seq (.seq (.reg [r 7 (.load (some 64) 2), p 8 (.mov (.k (.int .i64 0)))]) 
  (.block 0 (.loop cosine_within_l0))) (.seq (.keep []) (.seq (.reg [p 4 (.mov (.k (.bool true)))]) .ret))))⟩

def cosine_norm : MFun := ⟨1, [.t 2], (.seq (.reg [n 1 (.box 3 true 0), p 2 (.mov (.k (.int .i64 0)))]) (.seq (.reg [p 3 (.mkfn 290 [] [1]), w 4 (.call (.k (.fn 285 [] [])) [(.k (.int 
  .i64 8)), 3]), p 2 (.mov 4)]) .ret))⟩

def cosine_Inverse_1 : MFun := ⟨5, [.t 6], (.seq (.reg [p 6 (.mov (.k (.int .i64 0)))]) (.seq (.regd [.op 1 (r 8 (.load none 1)), .op 0 (p 7 (.mov 0)), .op 2 (p 9 (.stuck)), .op 3 (p 
  10 (.iaddrA 8 1 9 8)), .op 4 (r 11 (.load none 10)), .op 5 (p 12 (.mov 0)), .op 6 (p 13 (.iaddrA 8 1 2 12)), .op 7 (r 14 (.load none 13)), .op 9 (r 16 (.load none 4)), .op 10 (p 17 
  (.bin .mul (.k (.int .i64 8)) 16)), .op 11 (p 18 (.mov 0)), .op 12 (p 19 (.bin .add 17 18)), .op 13 (p 20 (.iaddrA 64 1 3 19)), .op 14 (r 21 (.load none 20)), .op 8 (p 15 (.bin .mul 
  11 14)), .op 15 (p 22 (.bin .mul 15 21)), .op 16 (p 6 (.mov 22))]) .ret))⟩

def cosine_sum_int_l0 : MCode := (.seq (.keep [1, 5, 7, 8]) (.seq (.reg [p 9 (.bin .lss 8 7)]) (.seq (.cond 9 .skip (.exit 0)) (.seq (.block 1 (.seq (.reg [p 10 (.mov 8), p 6 (.mov 
  10)]) (.reg [p 11 (.mov 5), p 12 (.mov 1), p 13 (.mov 6), w 14 (.call 12 [13]), p 15 (.bin .add 11 14), p 5 (.mov 15)]))) (.seq (.keep [1, 5, 7, 8]) (.reg [p 16 (.bin .add 8 (.k (.int 
  .i64 1))), p 8 (.mov 16)]))))))
def cosine_sum_int : MFun := ⟨2, [.t 4], (.seq (.reg [p 4 (.mov (.k (.int .i64 0)))]) (.seq (.reg [p 5 (.mov (.k (.int .i64 0)))]) (.seq (.seq (.reg [p 7 (.mov 0), p 8 (.mov (.k (.int 
  .i64 0)))]) (.block 0 (.loop cosine_sum_int_l0))) (.seq (.keep [5]) (.seq (.reg [p 17 (.mov 5), p 4 (.mov 17)]) .ret)))))⟩

def cosine_Inverse_2 : MFun := ⟨5, [.t 6], (.seq (.reg [p 6 (.mov (.k (.int .i64 0)))]) (.seq (.regd [.op 1 (r 8 (.load none 1)), .op 0 (p 7 (.mov 0)), .op 2 (p 9 (.stuck)), .op 3 (p 
  10 (.iaddrA 8 1 9 8)), .op 4 (r 11 (.load none 10)), .op 5 (p 12 (.mov 0)), .op 6 (p 13 (.iaddrA 8 1 2 12)), .op 7 (r 14 (.load none 13)), .op 11 (r 18 (.load none 4)), .op 9 (p 16 
  (.mov 0)), .op 10 (p 17 (.bin .mul (.k (.int .i64 8)) 16)), .op 12 (p 19 (.bin .add 17 18)), .op 13 (p 20 (.iaddrA 64 1 3 19)), .op 14 (r 21 (.load none 20)), .op 8 (p 15 (.bin .mul 
  11 14)), .op 15 (p 22 (.bin .mul 15 21)), .op 16 (p 6 (.mov 22))]) .ret))⟩

def fax_coder_ahead_1 : MFun := ⟨2, [.t 3], (.seq (.reg [p 3 (.mov (.k (.bool false)))]) (.seq (.reg [p 5 (.mov 0), p 6 (.bin .gtr 5 (.k (.int .i64 0))), p 7 (.mov 6), rg 8 7 true (.load 
  none 1), pg 9 7 true (.mov 0), pg 10 7 true (.bin .sub 9 (.k (.int .i64 1))), pg 11 7 true (.nilck 8), pg 12 7 true (.faddr 0 11), pg 13 7 true (.faddr 128 12), pg 14 7 true (.iaddrA 
  128 1 13 10), rg 15 7 true (.load none 14), p 16 (.pick 7 15 (.k (.bool false))), p 4 (.mov 16)]) (.seq (.keep [0, 1, 4]) (.seq (.regd [.op 0 (r 17 (.load none 1)), .op 1 (p 18 (.mov 
  0)), .op 2 (p 19 (.nilck 17)), .op 3 (p 20 (.faddr 0 19)), .op 4 (p 21 (.faddr 128 20)), .op 5 (p 22 (.iaddrA 128 1 21 18)), .op 6 (r 23 (.load none 22)), .op 7 (r 24 (.load none 1)), 
  .op 8 (p 25 (.nilck 24)), .op 9 (p 26 (.faddr 258 25)), .op 10 (r 27 (.load none 26)), .op 11 (p 28 (.eqB true 23 27)), .op 12 (p 29 (.mov 28)), .op 14 (rg 31 29 true (.load none 1)), 
  .op 15 (pg 32 29 true (.nilck 31)), .op 16 (pg 33 29 true (.faddr 258 32)), .op 17 (rg 34 29 true (.load none 33)), .op 13 (pg 30 29 true (.mov 4)), .op 18 (pg 35 29 true (.eqB false 
  30 34)), .op 19 (p 36 (.pick 29 35 (.k (.bool false)))), .op 20 (p 3 (.mov 36))]) .ret))))⟩

def fax_first_int_l0 : MCode := (.seq (.keep [1, 2, 7]) (.seq (.seq (.reg [p 11 (.mov 7), p 12 (.mov 1), p 13 (.bin .lss 11 12)]) (.cond 13 .skip (.exit 0))) (.seq (.block 1 (.seq (.reg 
  [p 16 (.mov 2), p 17 (.mov 7), w 18 (.call 16 [17])]) (.cond 18 (.exit 0) .skip))) (.reg [p 14 (.mov 7), p 15 (.bin .add 14 (.k (.int .i64 1))), p 7 (.mov 15)]))))
def fax_first_int : MFun := ⟨3, [.t 6], (.seq (.reg [p 6 (.mov (.k (.int .i64 0)))]) (.scope (.seq (.reg [p 8 (.mov 0), p 9 (.mov 1), p 10 (.minmax false [8, 9]), p 7 (.mov 10)]) (.seq 
  .skip (.seq (.block 0 (.loop fax_first_int_l0)) (.seq (.keep [7]) (.seq (.reg [p 19 (.mov 7), p 6 (.mov 19)]) .ret)))))))⟩

def fax_coder_ahead_2 : MFun := ⟨2, [.t 3], (.seq (.reg [p 3 (.mov (.k (.bool false)))]) (.seq (.regd [.op 0 (r 4 (.load none 1)), .op 1 (p 5 (.mov 0)), .op 2 (p 6 (.nilck 4)), .op 
  3 (p 7 (.faddr 0 6)), .op 4 (p 8 (.faddr 128 7)), .op 5 (p 9 (.iaddrA 128 1 8 5)), .op 6 (r 10 (.load none 9)), .op 7 (r 11 (.load none 1)), .op 8 (p 12 (.nilck 11)), .op 9 (p 13 (.faddr 
  258 12)), .op 10 (r 14 (.load none 13)), .op 11 (p 15 (.eqB false 10 14)), .op 12 (p 3 (.mov 15))]) .ret))⟩

def fax_coder_own_1 : MFun := ⟨2, [.t 3], (.seq (.reg [p 3 (.mov (.k (.bool false)))]) (.seq (.regd [.op 0 (r 4 (.load none 1)), .op 1 (p 5 (.mov 0)), .op 2 (p 6 (.nilck 4)), .op 3 
  (p 7 (.faddr 0 6)), .op 4 (p 8 (.faddr 0 7)), .op 5 (p 9 (.iaddrA 128 1 8 5)), .op 6 (r 10 (.load none 9)), .op 7 (r 11 (.load none 1)), .op 8 (p 12 (.nilck 11)), .op 9 (p 13 (.faddr 
  258 12)), .op 10 (r 14 (.load none 13)), .op 11 (p 15 (.eqB true 10 14)), .op 12 (p 3 (.mov 15))]) .ret))⟩

def fax_coder_own_2 : MFun := ⟨2, [.t 3], (.seq (.reg [p 3 (.mov (.k (.bool false)))]) (.seq (.regd [.op 0 (r 4 (.load none 1)), .op 1 (p 5 (.mov 0)), .op 2 (p 6 (.nilck 4)), .op 3 
  (p 7 (.faddr 0 6)), .op 4 (p 8 (.faddr 0 7)), .op 5 (p 9 (.iaddrA 128 1 8 5)), .op 6 (r 10 (.load none 9)), .op 7 (r 11 (.load none 1)), .op 8 (p 12 (.nilck 11)), .op 9 (p 13 (.faddr 
  258 12)), .op 10 (r 14 (.load none 13)), .op 11 (p 15 (.eqB false 10 14)), .op 12 (p 3 (.mov 15))]) .ret))⟩

def math_bits_Len : MFun := ⟨1, [.t 2], (.seq (.reg [p 2 (.mov (.k (.int .i64 0)))]) (.seq (.cond (.k (.bool false)) (.seq (.reg [p 3 (.mov 0), p 4 (.conv .u32 3), w 5 (.call (.k (.fn 
  52 [] [])) [4]), p 2 (.mov 5)]) .ret) .skip) (.seq (.reg [p 6 (.mov 0), w 7 (.call (.k (.fn 53 [] [])) [6]), p 2 (.mov 7)]) .ret)))⟩

def fax_filler_straight : MFun := ⟨1, [.t 2], (.seq (.reg [n 1 (.box 73 true 0), p 2 (.mov (.k (.bool false)))]) (.seq (.reg [r 3 (.load (some 2) 1), w 4 (.call (.k (.fn 54 [] [])) 
  [3, (.k (.int .i64 0))]), p 2 (.mov 4)]) .ret))⟩

def fax_filler_one : MFun := ⟨1, [.t 2], (.seq (.reg [n 1 (.box 73 true 0), p 2 (.mov (.k (.bool false)))]) (.seq (.regd [.op 0 (r 3 (.load (some 2) 1)), .op 1 (p 4 (.faddr 1 1)), .op 
  2 (r 5 (.load none 4)), .op 3 (w 6 (.call (.k (.fn 24 [] [])) [5])), .re 0, .op 4 (p 7 (.bin .mul (.k (.int .i64 2)) 6)), .op 5 (p 8 (.bin .sub 7 (.k (.int .i64 1)))), .op 6 (w 9 (.call 
  (.k (.fn 54 [] [])) [3, 8])), .op 7 (p 2 (.mov 9))]) .ret))⟩

def fax_filler_horizontal : MFun := ⟨1, [.t 2], (.seq (.reg [n 1 (.box 73 true 0), p 2 (.mov (.k (.bool false)))]) (.seq (.reg [p 6 (.faddr 0 1), r 7 (.load none 6), p 8 (.nilck 7), 
  p 9 (.faddr 257 8), r 10 (.load none 9), p 11 (.minmax true [10, (.k (.int .i64 0))]), p 3 (.mov 11)]) (.seq (.reg [p 12 (.mov 3), p 13 (.faddr 1 1), r 14 (.load none 13), w 15 (.call 
  (.k (.fn 55 [] [])) [14]), p 16 (.bin .add 12 15), p 4 (.mov 16)]) (.seq (.reg [p 17 (.mov 4), p 18 (.faddr 1 1), r 19 (.load none 18), w 20 (.call (.k (.fn 55 [] [])) [19]), p 21 (.bin 
  .add 17 20), p 5 (.mov 21)]) (.seq (.seq (.reg [p 22 (.mov 4), p 23 (.faddr 0 1), r 24 (.load none 23), p 25 (.nilck 24), p 26 (.faddr 257 25), r 27 (.load none 26), p 28 (.bin .leq 
  22 27), p 29 (.mov 28), pg 30 29 false (.mov 5), pg 31 29 false (.faddr 0 1), rg 32 29 false (.load none 31), pg 33 29 false (.nilck 32), pg 34 29 false (.faddr 257 33), rg 35 29 false 
  (.load none 34), pg 36 29 false (.bin .leq 30 35), p 37 (.pick 29 (.k (.bool true)) 36), p 38 (.mov 37), pg 39 38 false (.mov 5), pg 40 38 false (.faddr 0 1), rg 41 38 false (.load 
  none 40), pg 42 38 false (.nilck 41), pg 43 38 false (.faddr 256 42), rg 44 38 false (.load none 43), pg 45 38 false (.bin .gtr 39 44), p 46 (.pick 38 (.k (.bool true)) 45)]) (.seq 
  (.keep [1, 3, 4, 5, 46]) (.cond 46 (.seq (.reg [p 2 (.mov (.k (.bool false)))]) .ret) .skip))) (.seq (.keep [1, 3, 4, 5]) (.seq (.reg [r 47 (.load (some 2) 1), p 48 (.mov 3), p 49 (.mov 
  4), w 50 (.call (.k (.fn 56 [] [])) [47, 48, 49])]) (.seq (.regd [.op 0 (p 51 (.faddr 0 1)), .op 1 (r 52 (.load none 51)), .op 2 (p 53 (.faddr 0 1)), .op 3 (r 54 (.load none 53)), .op 
  4 (p 55 (.nilck 54)), .op 5 (p 56 (.faddr 258 55)), .op 6 (r 57 (.load none 56)), .op 7 (p 58 (.un .not 57)), .op 8 (p 59 (.nilck 52)), .op 9 (p 60 (.faddr 258 59)), .op 10 (w0 (.store 
  1 60 58))]) (.seq (.keep [1, 4, 5]) (.seq (.reg [r 61 (.load (some 2) 1), p 62 (.mov 4), p 63 (.mov 5), w 64 (.call (.k (.fn 56 [] [])) [61, 62, 63])]) (.seq (.regd [.op 0 (p 65 (.faddr 
  0 1)), .op 1 (r 66 (.load none 65)), .op 2 (p 67 (.faddr 0 1)), .op 3 (r 68 (.load none 67)), .op 4 (p 69 (.nilck 68)), .op 5 (p 70 (.faddr 258 69)), .op 6 (r 71 (.load none 70)), .op 
  7 (p 72 (.un .not 71)), .op 8 (p 73 (.nilck 66)), .op 9 (p 74 (.faddr 258 73)), .op 10 (w0 (.store 1 74 72))]) (.seq (.keep [1, 5]) (.seq (.reg [p 75 (.faddr 0 1), r 76 (.load none 
  75), p 77 (.mov 5), p 78 (.nilck 76), p 79 (.faddr 257 78), w0 (.store 1 79 77)]) (.seq (.reg [p 2 (.mov (.k (.bool true)))]) .ret))))))))))))))⟩

def fax_filler_pass : MFun := ⟨1, [.t 2], (.seq (.reg [n 1 (.box 73 true 0), p 2 (.mov (.k (.bool false)))]) (.seq (.reg [p 6 (.faddr 0 1), r 7 (.load none 6), w 8 (.call (.k (.fn 28 
  [] [])) [7]), p 5 (.mov 8), p 9 (.extr 0 5), p 10 (.extr 1 5), p 3 (.mov 9), p 4 (.mov 10)]) (.seq (.keep [1, 4]) (.seq (.seq (.reg [p 11 (.mov 4), p 12 (.faddr 0 1), r 13 (.load none 
  12), p 14 (.nilck 13), p 15 (.faddr 256 14), r 16 (.load none 15), p 17 (.bin .geq 11 16)]) (.cond 17 (.seq (.reg [p 2 (.mov (.k (.bool false)))]) .ret) .skip)) (.seq (.keep [1, 4]) 
  (.seq (.regd [.op 0 (r 18 (.load (some 2) 1)), .op 1 (p 19 (.faddr 0 1)), .op 2 (r 20 (.load none 19)), .op 3 (p 21 (.nilck 20)), .op 4 (p 22 (.faddr 257 21)), .op 5 (r 23 (.load none 
  22)), .op 6 (p 24 (.mov 4)), .op 7 (w 25 (.call (.k (.fn 56 [] [])) [18, 23, 24]))]) (.seq (.keep [1, 4]) (.seq (.reg [p 26 (.faddr 0 1), r 27 (.load none 26), p 28 (.mov 4), p 29 (.nilck 
  27), p 30 (.faddr 257 29), w0 (.store 1 30 28)]) (.seq (.reg [p 2 (.mov (.k (.bool true)))]) .ret)))))))))⟩

def fax_filler_two : MFun := ⟨1, [.t 2], (.seq (.reg [n 1 (.box 73 true 0), p 2 (.mov (.k (.bool false)))]) (.seq (.regd [.op 0 (r 3 (.load (some 2) 1)), .op 1 (p 4 (.faddr 1 1)), .op 
  2 (r 5 (.load none 4)), .op 3 (w 6 (.call (.k (.fn 24 [] [])) [5])), .re 0, .op 4 (p 7 (.bin .mul (.k (.int .i64 4)) 6)), .op 5 (p 8 (.bin .sub 7 (.k (.int .i64 2)))), .op 6 (w 9 (.call 
  (.k (.fn 54 [] [])) [3, 8])), .op 7 (p 2 (.mov 9))]) .ret))⟩

def fax_filler_three : MFun := ⟨1, [.t 2], (.seq (.reg [n 1 (.box 73 true 0), p 2 (.mov (.k (.bool false)))]) (.seq (.regd [.op 0 (r 3 (.load (some 2) 1)), .op 1 (p 4 (.faddr 1 1)), 
  .op 2 (r 5 (.load none 4)), .op 3 (w 6 (.call (.k (.fn 24 [] [])) [5])), .re 0, .op 4 (p 7 (.bin .mul (.k (.int .i64 6)) 6)), .op 5 (p 8 (.bin .sub 7 (.k (.int .i64 3)))), .op 6 (w 
  9 (.call (.k (.fn 54 [] [])) [3, 8])), .op 7 (p 2 (.mov 9))]) .ret))⟩

def cosine_Forward_1 : MFun := ⟨4, [.t 5], (.seq (.reg [p 5 (.mov (.k (.int .i64 0)))]) (.seq (.regd [.op 0 (r 6 (.load none 1)), .op 1 (p 7 (.mov 0)), .op 2 (p 8 (.stuck)), .op 3 (p 
  9 (.iaddrA 8 1 8 7)), .op 4 (r 10 (.load none 9)), .op 5 (r 11 (.load none 3)), .op 6 (p 12 (.bin .mul (.k (.int .i64 8)) 11)), .op 7 (p 13 (.mov 0)), .op 8 (p 14 (.bin .add 12 13)), 
  .op 9 (p 15 (.iaddrA 64 1 2 14)), .op 10 (r 16 (.load none 15)), .op 11 (p 17 (.bin .mul 10 16)), .op 12 (p 5 (.mov 17))]) .ret))⟩

def cosine_Forward_2 : MFun := ⟨4, [.t 5], (.seq (.reg [p 5 (.mov (.k (.int .i64 0)))]) (.seq (.regd [.op 0 (r 6 (.load none 1)), .op 1 (p 7 (.mov 0)), .op 2 (p 8 (.stuck)), .op 3 (p 
  9 (.iaddrA 8 1 8 7)), .op 4 (r 10 (.load none 9)), .op 7 (r 13 (.load none 3)), .op 5 (p 11 (.mov 0)), .op 6 (p 12 (.bin .mul (.k (.int .i64 8)) 11)), .op 8 (p 14 (.bin .add 12 13)), 
  .op 9 (p 15 (.iaddrA 64 1 2 14)), .op 10 (r 16 (.load none 15)), .op 11 (p 17 (.bin .mul 10 16)), .op 12 (p 5 (.mov 17))]) .ret))⟩

def cosine_zigzag : MFun := ⟨0, [.t 0], (.seq (.reg [p 0 (.mov (.k .nilfn))]) (.seq (.reg [p 0 (.mov (.k (.fn 291 [] [])))]) .ret))⟩

def cosine_norm_1 : MFun := ⟨2, [.t 3], (.seq (.reg [p 3 (.mov (.k (.int .i64 0)))]) (.seq (.regd [.op 0 (r 4 (.load none 1)), .op 1 (p 5 (.mov 0)), .op 2 (p 6 (.stuck)), .op 3 (p 7 
  (.iaddrA 8 1 6 5)), .op 4 (r 8 (.load none 7)), .op 5 (r 9 (.load none 1)), .op 6 (p 10 (.mov 0)), .op 7 (p 11 (.stuck)), .op 8 (p 12 (.iaddrA 8 1 11 10)), .op 9 (r 13 (.load none 12)), 
  .op 10 (p 14 (.bin .mul 8 13)), .op 11 (p 3 (.mov 14))]) .ret))⟩

def math_bits_Len32 : MFun := ⟨1, [.t 2], (.seq (.reg [p 2 (.mov (.k (.int .i64 0)))]) (.seq (.seq (.reg [p 3 (.mov 0), p 4 (.bin .geq 3 (.k (.int .u32 65536)))]) (.cond 4 (.seq (.reg 
  [p 5 (.mov 0), p 6 (.bin .shr 5 (.k (.int .u64 16))), p 0 (.mov 6)]) (.reg [p 2 (.mov (.k (.int .i64 16)))])) .skip)) (.seq (.seq (.reg [p 7 (.mov 0), p 8 (.bin .geq 7 (.k (.int .u32 
  256)))]) (.cond 8 (.seq (.reg [p 9 (.mov 0), p 10 (.bin .shr 9 (.k (.int .u64 8))), p 0 (.mov 10)]) (.reg [p 11 (.mov 2), p 12 (.bin .add 11 (.k (.int .i64 8))), p 2 (.mov 12)])) .skip)) 
  (.seq (.keep [0, 2]) (.seq (.reg [p 13 (.mov 2), p 14 (.mov 0), p 15 (.conv .u8 14), p 16 (.idxS (.k (.str [0, 1, 2, 2, 3, 3, 3, 3, 4, 4, 4, 4, 4, 4, 4, 4, 5, 5, 5, 5, 5, 5, 5, 5, 5, 
  5, 5, 5, 5, 5, 5, 5, 6, 6, 6, 6, 6, 6, 6, 6, 6, 6, 6, 6, 6, 6, 6, 6, 6, 6, 6, 6, 6, 6, 6, 6, 6, 6, 6, 6, 6, 6, 6, 6, 7, 7, 7, 7, 7, 7, 7, 7, 7, 7, 7, 7, 7, 7, 7, 7, 7, 7, 7, 7, 7, 7, 
  7, 7, 7, 7, 7, 7, 7, 7, 7, 7, 7, 7, 7, 7, 7, 7, 7, 7, 7, 7, 7, 7, 7, 7, 7, 7, 7, 7, 7, 7, 7, 7, 7, 7, 7, 7, 7, 7, 7, 7, 7, 7, 8, 8, 8, 8, 8, 8, 8, 8, 8, 8, 8, 8, 8, 8, 8, 8, 8, 8, 8, 
  8, 8, 8, 8, 8, 8, 8, 8, 8, 8, 8, 8, 8, 8, 8, 8, 8, 8, 8, 8, 8, 8, 8, 8, 8, 8, 8, 8, 8, 8, 8, 8, 8, 8, 8, 8, 8, 8, 8, 8, 8, 8, 8, 8, 8, 8, 8, 8, 8, 8, 8, 8, 8, 8, 8, 8, 8, 8, 8, 8, 8, 
  8, 8, 8, 8, 8, 8, 8, 8, 8, 8, 8, 8, 8, 8, 8, 8, 8, 8, 8, 8, 8, 8, 8, 8, 8, 8, 8, 8, 8, 8, 8, 8, 8, 8, 8, 8, 8, 8, 8, 8, 8, 8, 8, 8, 8, 8, 8, 8])) 15), p 17 (.conv .i64 16), p 18 (.bin 
  .add 13 17), p 2 (.mov 18)]) .ret)))))⟩

def math_bits_Len64 : MFun := ⟨1, [.t 2], (.seq (.reg [p 2 (.mov (.k (.int .i64 0)))]) (.seq (.seq (.reg [p 3 (.mov 0), p 4 (.bin .geq 3 (.k (.int .u64 4294967296)))]) (.cond 4 (.seq 
  (.reg [p 5 (.mov 0), p 6 (.bin .shr 5 (.k (.int .u64 32))), p 0 (.mov 6)]) (.reg [p 2 (.mov (.k (.int .i64 32)))])) .skip)) (.seq (.seq (.reg [p 7 (.mov 0), p 8 (.bin .geq 7 (.k (.int 
  .u64 65536)))]) (.cond 8 (.seq (.reg [p 9 (.mov 0), p 10 (.bin .shr 9 (.k (.int .u64 16))), p 0 (.mov 10)]) (.reg [p 11 (.mov 2), p 12 (.bin .add 11 (.k (.int .i64 16))), p 2 (.mov 
  12)])) .skip)) (.seq (.keep [0, 2]) (.seq (.seq (.reg [p 13 (.mov 0), p 14 (.bin .geq 13 (.k (.int .u64 256)))]) (.cond 14 (.seq (.reg [p 15 (.mov 0), p 16 (.bin .shr 15 (.k (.int .u64 
  8))), p 0 (.mov 16)]) (.reg [p 17 (.mov 2), p 18 (.bin .add 17 (.k (.int .i64 8))), p 2 (.mov 18)])) .skip)) (.seq (.keep [0, 2]) (.seq (.reg [p 19 (.mov 2), p 20 (.mov 0), p 21 (.conv 
  .u8 20), p 22 (.idxS (.k (.str [0, 1, 2, 2, 3, 3, 3, 3, 4, 4, 4, 4, 4, 4, 4, 4, 5, 5, 5, 5, 5, 5, 5, 5, 5, 5, 5, 5, 5, 5, 5, 5, 6, 6, 6, 6, 6, 6, 6, 6, 6, 6, 6, 6, 6, 6, 6, 6, 6, 6, 
  6, 6, 6, 6, 6, 6, 6, 6, 6, 6, 6, 6, 6, 6, 7, 7, 7, 7, 7, 7, 7, 7, 7, 7, 7, 7, 7, 7, 7, 7, 7, 7, 7, 7, 7, 7, 7, 7, 7, 7, 7, 7, 7, 7, 7, 7, 7, 7, 7, 7, 7, 7, 7, 7, 7, 7, 7, 7, 7, 7, 7, 
  7, 7, 7, 7, 7, 7, 7, 7, 7, 7, 7, 7, 7, 7, 7, 7, 7, 8, 8, 8, 8, 8, 8, 8, 8, 8, 8, 8, 8, 8, 8, 8, 8, 8, 8, 8, 8, 8, 8, 8, 8, 8, 8, 8, 8, 8, 8, 8, 8, 8, 8, 8, 8, 8, 8, 8, 8, 8, 8, 8, 8, 
  8, 8, 8, 8, 8, 8, 8, 8, 8, 8, 8, 8, 8, 8, 8, 8, 8, 8, 8, 8, 8, 8, 8, 8, 8, 8, 8, 8, 8, 8, 8, 8, 8, 8, 8, 8, 8, 8, 8, 8, 8, 8, 8, 8, 8, 8, 8, 8, 8, 8, 8, 8, 8, 8, 8, 8, 8, 8, 8, 8, 8, 
  8, 8, 8, 8, 8, 8, 8, 8, 8, 8, 8, 8, 8, 8, 8, 8, 8, 8, 8, 8, 8, 8, 8])) 21), p 23 (.conv .i64 22), p 24 (.bin .add 19 23), p 2 (.mov 24)]) .ret)))))))⟩

def fax_filler_vertical : MFun := ⟨2, [.t 4], (.seq (.reg [n 2 (.box 73 true 0), p 4 (.mov (.k (.bool false)))]) (.seq (.reg [p 9 (.faddr 0 2), r 10 (.load none 9), w 11 (.call (.k 
  (.fn 28 [] [])) [10]), p 8 (.mov 11), p 12 (.extr 0 8), p 13 (.extr 1 8), p 5 (.mov 12), p 6 (.mov 13)]) (.seq (.keep [1, 2, 5]) (.seq (.reg [p 14 (.mov 5), p 15 (.mov 1), p 16 (.bin 
  .add 14 15), p 7 (.mov 16)]) (.seq (.seq (.reg [p 17 (.mov 7), p 18 (.faddr 0 2), r 19 (.load none 18), p 20 (.nilck 19), p 21 (.faddr 257 20), r 22 (.load none 21), p 23 (.bin .leq 
  17 22), p 24 (.mov 23), pg 25 24 false (.mov 7), pg 26 24 false (.bin .lss 25 (.k (.int .i64 0))), p 27 (.pick 24 (.k (.bool true)) 26), p 28 (.mov 27), pg 29 28 false (.mov 7), pg 
  30 28 false (.faddr 0 2), rg 31 28 false (.load none 30), pg 32 28 false (.nilck 31), pg 33 28 false (.faddr 256 32), rg 34 28 false (.load none 33), pg 35 28 false (.bin .gtr 29 34), 
  p 36 (.pick 28 (.k (.bool true)) 35)]) (.seq (.keep [2, 7, 36]) (.cond 36 (.seq (.reg [p 4 (.mov (.k (.bool false)))]) .ret) .skip))) (.seq (.keep [2, 7]) (.seq (.regd [.op 0 (r 37 
  (.load (some 2) 2)), .op 1 (p 38 (.faddr 0 2)), .op 2 (r 39 (.load none 38)), .op 3 (p 40 (.nilck 39)), .op 4 (p 41 (.faddr 257 40)), .op 5 (r 42 (.load none 41)), .op 6 (p 43 (.mov 
  7)), .op 7 (w 44 (.call (.k (.fn 56 [] [])) [37, 42, 43]))]) (.seq (.keep [2, 7]) (.seq (.regd [.op 0 (p 45 (.faddr 0 2)), .op 1 (r 46 (.load none 45)), .op 2 (p 47 (.faddr 0 2)), .op 
  3 (r 48 (.load none 47)), .op 5 (p 50 (.faddr 0 2)), .op 6 (r 51 (.load none 50)), .op 7 (p 52 (.nilck 51)), .op 8 (p 53 (.faddr 258 52)), .op 9 (r 54 (.load none 53)), .op 4 (p 49 
  (.mov 7)), .op 11 (p 56 (.nilck 46)), .op 12 (p 57 (.faddr 257 56)), .op 13 (w0 (.store 1 57 49)), .re 3, .op 10 (p 55 (.un .not 54)), .op 14 (p 58 (.nilck 48)), .op 15 (p 59 (.faddr 
  258 58)), .op 16 (w0 (.store 1 59 55))]) (.seq (.keep []) (.seq (.reg [p 4 (.mov (.k (.bool true)))]) .ret)))))))))))⟩

def fax_reader_run_l0 : MCode := (.seq (.keep [0, 3]) (.seq (.seq (.reg [p 4 (.mov 0), w 5 (.call (.k (.fn 24 [] [])) [4]), p 6 (.bin .eql 5 (.k (.int .i64 0))), p 7 (.mov 6), pg 8 
  7 true (.mov 0), pg 9 7 true (.nilck 8), pg 10 7 true (.faddr 2 9), rg 11 7 true (.load none 10), pg 12 7 true (.un .not 11), p 13 (.pick 7 12 (.k (.bool false)))]) (.cond 13 .skip 
  (.exit 0))) (.seq (.keep [0, 3]) (.block 1 (.reg [p 14 (.mov 3), p 15 (.bin .add 14 (.k (.int .i64 1))), p 3 (.mov 15)])))))
def fax_reader_run : MFun := ⟨1, [.t 2], (.seq (.reg [p 2 (.mov (.k (.int .i64 0)))]) (.seq (.reg [p 3 (.mov (.k (.int .i64 0)))]) (.seq (.block 0 (.loop fax_reader_run_l0)) (.seq (.keep 
  [0, 3]) (.seq (.seq (.reg [p 16 (.mov 3), p 17 (.bin .gtr 16 (.k (.int .i64 8)))]) (.cond 17 (.seq (.reg [p 2 (.mov (.k (.int .i64 129)))]) .ret) .skip)) (.seq (.reg [p 18 (.mov 0), 
  p 19 (.mov 3), w 20 (.call (.k (.fn 57 [] [])) [18, (.k (.int .i64 1)), 19]), p 21 (.bin .sub 20 (.k (.int .i64 1))), p 2 (.mov 21)]) .ret))))))⟩

def fax_filler_fill_l0 : MCode := (.seq (.keep [2, 3, 6]) (.seq (.seq (.reg [p 9 (.mov 6), p 10 (.mov 2), p 11 (.bin .lss 9 10)]) (.cond 11 .skip (.exit 0))) (.seq (.block 1 (.regd 
  [.op 0 (p 14 (.faddr 0 3)), .op 1 (r 15 (.load none 14)), .op 3 (p 17 (.faddr 0 3)), .op 4 (r 18 (.load none 17)), .op 5 (p 19 (.nilck 18)), .op 6 (p 20 (.faddr 258 19)), .op 7 (r 21 
  (.load none 20)), .op 2 (p 16 (.mov 6)), .op 8 (p 22 (.nilck 15)), .op 9 (p 23 (.faddr 0 22)), .op 10 (p 24 (.faddr 0 23)), .op 11 (p 25 (.iaddrA 128 1 24 16)), .op 12 (w0 (.store 1 
  25 21))])) (.seq (.keep [2, 3, 6]) (.reg [p 12 (.mov 6), p 13 (.bin .add 12 (.k (.int .i64 1))), p 6 (.mov 13)])))))
def fax_filler_fill : MFun := ⟨3, [], (.seq (.reg [n 3 (.box 73 true 0)]) (.seq (.reg [p 7 (.mov 1), p 8 (.minmax true [7, (.k (.int .i64 0))]), p 6 (.mov 8)]) (.block 0 (.loop fax_filler_fill_l0))))⟩

def cosine_zigzag_1_l0 : MCode := (.seq (.keep [0, 2, 5, 9, 10]) (.seq (.reg [p 11 (.bin .lss 10 9)]) (.seq (.cond 11 .skip (.exit 2)) (.seq (.block 3 (.seq (.reg [p 12 (.mov 10), p 
  3 (.mov 12)]) (.seq (.reg [p 13 (.mov 3), p 4 (.mov 13)]) (.seq (.seq (.reg [p 14 (.mov 2), p 15 (.bin .rem 14 (.k (.int .i64 2))), p 16 (.bin .eql 15 (.k (.int .i64 0)))]) (.cond 16 
  (.reg [p 17 (.mov 2), p 18 (.mov 3), p 19 (.bin .sub 17 18), p 4 (.mov 19)]) .skip)) (.seq (.reg [p 20 (.mov 4), p 21 (.bin .lss 20 (.k (.int .i64 8))), p 22 (.mov 21), pg 23 22 true 
  (.mov 2), pg 24 22 true (.mov 4), pg 25 22 true (.bin .sub 23 24), pg 26 22 true (.bin .lss 25 (.k (.int .i64 8))), p 27 (.pick 22 26 (.k (.bool false))), p 28 (.mov 27), pg 29 28 true 
  (.mov 0), pg 30 28 true (.mov 4), pg 31 28 true (.mov 2), pg 32 28 true (.mov 4), pg 33 28 true (.bin .sub 31 32), wg 34 28 true (.call 29 [30, 33]), pg 35 28 true (.un .not 34), p 
  36 (.pick 28 35 (.k (.bool false)))]) (.cond 36 .ret .skip)))))) (.seq (.keep [0, 2, 5, 9, 10]) (.reg [p 37 (.bin .add 10 (.k (.int .i64 1))), p 10 (.mov 37)]))))))
def cosine_zigzag_1_l1 : MCode := (.seq (.keep [0, 5]) (.seq (.reg [p 6 (.bin .lss 5 (.k (.int .i64 15)))]) (.seq (.cond 6 .skip (.exit 0)) (.seq (.block 1 (.seq (.reg [p 7 (.mov 5), 
  p 2 (.mov 7)]) (.seq (.reg [p 8 (.mov 2), p 9 (.bin .add 8 (.k (.int .i64 1))), p 10 (.mov (.k (.int .i64 0)))]) (.block 2 (.loop cosine_zigzag_1_l0))))) (.seq (.keep [0, 5]) (.reg 
  [p 38 (.bin .add 5 (.k (.int .i64 1))), p 5 (.mov 38)]))))))
def cosine_zigzag_1 : MFun := ⟨1, [], (.seq (.reg [p 5 (.mov (.k (.int .i64 0)))]) (.block 0 (.loop cosine_zigzag_1_l1)))⟩

def fax_reader_number_l0 : MCode := (.seq (.keep [0, 1, 7, 8]) (.seq (.reg [p 9 (.bin .lss 8 7)]) (.seq (.cond 9 .skip (.exit 0)) (.seq (.block 1 (.reg [p 10 (.mov 1), p 11 (.bin .mul 
  (.k (.int .i64 2)) 10), p 12 (.mov 0), w 13 (.call (.k (.fn 24 [] [])) [12]), p 14 (.bin .add 11 13), p 1 (.mov 14)])) (.reg [p 15 (.bin .add 8 (.k (.int .i64 1))), p 8 (.mov 15)])))))
def fax_reader_number : MFun := ⟨3, [.t 6], (.seq (.reg [p 6 (.mov (.k (.int .i64 0)))]) (.seq (.seq (.reg [p 7 (.mov 2), p 8 (.mov (.k (.int .i64 0)))]) (.block 0 (.loop fax_reader_number_l0))) 
  (.seq (.keep [1]) (.seq (.reg [p 16 (.mov 1), p 6 (.mov 16)]) .ret))))⟩


structure H_chaseref09_Draft_Filter (T : Tab) : Prop where
  e : T.en 229 = none
  f : T.fn 229 = some chaseref09_Draft_Filter
structure H_chaseref09_Right (T : Tab) : Prop where
  e : T.en 230 = none
  f : T.fn 230 = some chaseref09_Right
structure H_filter_apply_string (T : Tab) : Prop where
  e : T.en 237 = none
  f : T.fn 237 = some filter_apply_string
structure H_filter_Decode_1 (T : Tab) : Prop where
  e : T.en 238 = none
  f : T.fn 238 = some filter_Decode_1
structure H_slices_Backward_filter_coding_filter_coding_1 (T : Tab) : Prop where
  e : T.en 240 = none
  f : T.fn 240 = some slices_Backward_filter_coding_filter_coding_1
structure H_runs_Decode (T : Tab) : Prop where
  e : T.en 245 = none
  f : T.fn 245 = some runs_Decode
structure H_ascii_group_spread (T : Tab) : Prop where
  e : T.en 251 = none
  f : T.fn 251 = some ascii_group_spread
structure H_runs_pieces_byte (T : Tab) : Prop where
  e : T.en 255 = none
  f : T.fn 255 = some runs_pieces_byte
structure H_lzw_writer_close (T : Tab) : Prop where
  e : T.en 257 = none
  f : T.fn 257 = some lzw_writer_close
structure H_filter_coding_right (T : Tab) : Prop where
  e : T.en 261 = none
  f : T.fn 261 = some filter_coding_right
structure H_runs_runs_1 (T : Tab) : Prop where
  e : T.en 264 = none
  f : T.fn 264 = some runs_runs_1
structure H_lzw_counter_width (T : Tab) : Prop where
  e : T.en 265 = none
  f : T.fn 265 = some lzw_counter_width
structure H_lzw_counter_count (T : Tab) : Prop where
  e : T.en 266 = none
  f : T.fn 266 = some lzw_counter_count
structure H_fax_octets (T : Tab) : Prop where
  e : T.en 16 = none
  f : T.fn 16 = some fax_octets
structure H_fax_unpack (T : Tab) : Prop where
  e : T.en 17 = none
  f : T.fn 17 = some fax_unpack
structure H_fax_writer_put (T : Tab) : Prop where
  e : T.en 18 = none
  f : T.fn 18 = some fax_writer_put
structure H_fax_reader_bit (T : Tab) : Prop where
  e : T.en 24 = none
  f : T.fn 24 = some fax_reader_bit
structure H_cosine_sized (T : Tab) : Prop where
  e : T.en 271 = none
  f : T.fn 271 = some cosine_sized
structure H_lzw_reader_read (T : Tab) : Prop where
  e : T.en 275 = none
  f : T.fn 275 = some lzw_reader_read
  lzw_counter_width : H_lzw_counter_width T
structure H_fax_vertical (T : Tab) : Prop where
  e : T.en 30 = none
  f : T.fn 30 = some fax_vertical
structure H_fax_reader_zeros (T : Tab) : Prop where
  e : T.en 36 = none
  f : T.fn 36 = some fax_reader_zeros
  fax_reader_bit : H_fax_reader_bit T
structure H_cosine_floor (T : Tab) : Prop where
  e : T.en 278 = none
  f : T.fn 278 = some cosine_floor
structure H_cosine_number (T : Tab) : Prop where
  e : T.en 279 = none
  f : T.fn 279 = some cosine_number
structure H_cosine_reader_octet (T : Tab) : Prop where
  e : T.en 280 = none
  f : T.fn 280 = some cosine_reader_octet
structure H_cosine_reader_number (T : Tab) : Prop where
  e : T.en 281 = none
  f : T.fn 281 = some cosine_reader_number
  cosine_reader_octet : H_cosine_reader_octet T
structure H_cosine_within (T : Tab) : Prop where
  e : T.en 282 = none
  f : T.fn 282 = some cosine_within
structure H_cosine_Inverse_1 (T : Tab) : Prop where
  e : T.en 284 = none
  f : T.fn 284 = some cosine_Inverse_1
structure H_cosine_sum_int (T : Tab) : Prop where
  e : T.en 285 = none
  f : T.fn 285 = some cosine_sum_int
structure H_cosine_Inverse_2 (T : Tab) : Prop where
  e : T.en 286 = none
  f : T.fn 286 = some cosine_Inverse_2
structure H_fax_coder_ahead_1 (T : Tab) : Prop where
  e : T.en 39 = none
  f : T.fn 39 = some fax_coder_ahead_1
structure H_fax_first_int (T : Tab) : Prop where
  e : T.en 40 = none
  f : T.fn 40 = some fax_first_int
structure H_fax_coder_ahead_2 (T : Tab) : Prop where
  e : T.en 41 = none
  f : T.fn 41 = some fax_coder_ahead_2
structure H_fax_coder_own_1 (T : Tab) : Prop where
  e : T.en 42 = none
  f : T.fn 42 = some fax_coder_own_1
structure H_fax_coder_own_2 (T : Tab) : Prop where
  e : T.en 43 = none
  f : T.fn 43 = some fax_coder_own_2
structure H_cosine_Forward_1 (T : Tab) : Prop where
  e : T.en 287 = none
  f : T.fn 287 = some cosine_Forward_1
structure H_cosine_Forward_2 (T : Tab) : Prop where
  e : T.en 288 = none
  f : T.fn 288 = some cosine_Forward_2
structure H_cosine_norm_1 (T : Tab) : Prop where
  e : T.en 290 = none
  f : T.fn 290 = some cosine_norm_1
structure H_math_bits_Len32 (T : Tab) : Prop where
  e : T.en 52 = none
  f : T.fn 52 = some math_bits_Len32
structure H_math_bits_Len64 (T : Tab) : Prop where
  e : T.en 53 = none
  f : T.fn 53 = some math_bits_Len64
structure H_fax_filler_fill (T : Tab) : Prop where
  e : T.en 56 = none
  f : T.fn 56 = some fax_filler_fill
structure H_cosine_zigzag_1 (T : Tab) : Prop where
  e : T.en 291 = none
  f : T.fn 291 = some cosine_zigzag_1
structure H_fax_reader_number (T : Tab) : Prop where
  e : T.en 57 = none
  f : T.fn 57 = some fax_reader_number
  fax_reader_bit : H_fax_reader_bit T
structure H_slices_Backward_filter_coding_filter_coding (T : Tab) : Prop where
  e : T.en 236 = none
  f : T.fn 236 = some slices_Backward_filter_coding_filter_coding
  slices_Backward_filter_coding_filter_coding_1 : H_slices_Backward_filter_coding_filter_coding_1 T
structure H_filter_codings_1_1 (T : Tab) : Prop where
  e : T.en 250 = none
  f : T.fn 250 = some filter_codings_1_1
  filter_coding_right : H_filter_coding_right T
structure H_strings_Builder_Write (T : Tab) : Prop where
  e : T.en 252 = none
  f : T.fn 252 = some strings_Builder_Write
  strings_Builder_copyCheck : H_strings_Builder_copyCheck T
structure H_runs_Encode_1 (T : Tab) : Prop where
  e : T.en 253 = none
  f : T.fn 253 = some runs_Encode_1
  runs_pieces_byte : H_runs_pieces_byte T
structure H_runs_runs (T : Tab) : Prop where
  e : T.en 254 = none
  f : T.fn 254 = some runs_runs
  runs_runs_1 : H_runs_runs_1 T
structure H_lzw_writer_put (T : Tab) : Prop where
  e : T.en 256 = none
  f : T.fn 256 = some lzw_writer_put
  lzw_counter_width : H_lzw_counter_width T
  lzw_counter_count : H_lzw_counter_count T
structure H_lzw_reader_codes_1 (T : Tab) : Prop where
  e : T.en 270 = none
  f : T.fn 270 = some lzw_reader_codes_1
  lzw_reader_read : H_lzw_reader_read T
  lzw_counter_count : H_lzw_counter_count T
structure H_fax_coder_ahead (T : Tab) : Prop where
  e : T.en 28 = none
  f : T.fn 28 = some fax_coder_ahead
  fax_coder_ahead_1 : H_fax_coder_ahead_1 T
  fax_first_int : H_fax_first_int T
  fax_coder_ahead_2 : H_fax_coder_ahead_2 T
structure H_fax_coder_own (T : Tab) : Prop where
  e : T.en 29 = none
  f : T.fn 29 = some fax_coder_own
  fax_coder_own_1 : H_fax_coder_own_1 T
  fax_first_int : H_fax_first_int T
  fax_coder_own_2 : H_fax_coder_own_2 T
structure H_cosine_Forward (T : Tab) : Prop where
  e : T.en 276 = none
  f : T.fn 276 = some cosine_Forward
  cosine_within : H_cosine_within T
  cosine_Forward_1 : H_cosine_Forward_1 T
  cosine_sum_int : H_cosine_sum_int T
  cosine_Forward_2 : H_cosine_Forward_2 T
structure H_cosine_norm (T : Tab) : Prop where
  e : T.en 283 = none
  f : T.fn 283 = some cosine_norm
  cosine_norm_1 : H_cosine_norm_1 T
  cosine_sum_int : H_cosine_sum_int T
structure H_math_bits_Len (T : Tab) : Prop where
  e : T.en 44 = none
  f : T.fn 44 = some math_bits_Len
  math_bits_Len32 : H_math_bits_Len32 T
  math_bits_Len64 : H_math_bits_Len64 T
structure H_fax_filler_pass (T : Tab) : Prop where
  e : T.en 49 = none
  f : T.fn 49 = some fax_filler_pass
  fax_coder_ahead : H_fax_coder_ahead T
  fax_filler_fill : H_fax_filler_fill T
structure H_cosine_zigzag (T : Tab) : Prop where
  e : T.en 289 = none
  f : T.fn 289 = some cosine_zigzag
  cosine_zigzag_1 : H_cosine_zigzag_1 T
structure H_fax_filler_vertical (T : Tab) : Prop where
  e : T.en 54 = none
  f : T.fn 54 = some fax_filler_vertical
  fax_coder_ahead : H_fax_coder_ahead T
  fax_filler_fill : H_fax_filler_fill T
structure H_fax_reader_run (T : Tab) : Prop where
  e : T.en 55 = none
  f : T.fn 55 = some fax_reader_run
  fax_reader_bit : H_fax_reader_bit T
  fax_reader_number : H_fax_reader_number T
structure H_filter_codings_1 (T : Tab) : Prop where
  e : T.en 241 = none
  f : T.fn 241 = some filter_codings_1
  filter_codings_1_1 : H_filter_codings_1_1 T
structure H_ascii_Hex (T : Tab) : Prop where
  e : T.en 242 = none
  f : T.fn 242 = some ascii_Hex
  strings_Builder_WriteByte : H_strings_Builder_WriteByte T
  strings_Builder_String : H_strings_Builder_String T
  ascii_bounded : H_ascii_bounded T
structure H_ascii_Base85 (T : Tab) : Prop where
  e : T.en 243 = none
  f : T.fn 243 = some ascii_Base85
  ascii_group_spread : H_ascii_group_spread T
  strings_Builder_WriteByte : H_strings_Builder_WriteByte T
  strings_Builder_Write : H_strings_Builder_Write T
  strings_Builder_WriteString : H_strings_Builder_WriteString T
  strings_Builder_String : H_strings_Builder_String T
  ascii_bounded : H_ascii_bounded T
structure H_runs_Encode (T : Tab) : Prop where
  e : T.en 244 = none
  f : T.fn 244 = some runs_Encode
  runs_Encode_1 : H_runs_Encode_1 T
  runs_runs : H_runs_runs T
  runs_pieces_byte : H_runs_pieces_byte T
structure H_lzw_Encode (T : Tab) : Prop where
  e : T.en 246 = none
  f : T.fn 246 = some lzw_Encode
  lzw_writer_put : H_lzw_writer_put T
  lzw_writer_close : H_lzw_writer_close T
structure H_lzw_reader_codes (T : Tab) : Prop where
  e : T.en 267 = none
  f : T.fn 267 = some lzw_reader_codes
  lzw_reader_codes_1 : H_lzw_reader_codes_1 T
structure H_cosine_Inverse (T : Tab) : Prop where
  e : T.en 274 = none
  f : T.fn 274 = some cosine_Inverse
  cosine_within : H_cosine_within T
  cosine_norm : H_cosine_norm T
  cosine_Inverse_1 : H_cosine_Inverse_1 T
  cosine_sum_int : H_cosine_sum_int T
  cosine_Inverse_2 : H_cosine_Inverse_2 T
  cosine_floor : H_cosine_floor T
structure H_fax_run (T : Tab) : Prop where
  e : T.en 31 = none
  f : T.fn 31 = some fax_run
  math_bits_Len : H_math_bits_Len T
structure H_cosine_order (T : Tab) : Prop where
  e : T.en 277 = none
  f : T.fn 277 = some cosine_order
  cosine_zigzag : H_cosine_zigzag T
structure H_fax_filler_straight (T : Tab) : Prop where
  e : T.en 46 = none
  f : T.fn 46 = some fax_filler_straight
  fax_filler_vertical : H_fax_filler_vertical T
structure H_fax_filler_one (T : Tab) : Prop where
  e : T.en 47 = none
  f : T.fn 47 = some fax_filler_one
  fax_reader_bit : H_fax_reader_bit T
  fax_filler_vertical : H_fax_filler_vertical T
structure H_fax_filler_horizontal (T : Tab) : Prop where
  e : T.en 48 = none
  f : T.fn 48 = some fax_filler_horizontal
  fax_reader_run : H_fax_reader_run T
  fax_filler_fill : H_fax_filler_fill T
structure H_fax_filler_two (T : Tab) : Prop where
  e : T.en 50 = none
  f : T.fn 50 = some fax_filler_two
  fax_reader_bit : H_fax_reader_bit T
  fax_filler_vertical : H_fax_filler_vertical T
structure H_fax_filler_three (T : Tab) : Prop where
  e : T.en 51 = none
  f : T.fn 51 = some fax_filler_three
  fax_reader_bit : H_fax_reader_bit T
  fax_filler_vertical : H_fax_filler_vertical T
structure H_lzw_reader_expand (T : Tab) : Prop where
  e : T.en 258 = none
  f : T.fn 258 = some lzw_reader_expand
  lzw_reader_codes : H_lzw_reader_codes T
structure H_fax_coder_write (T : Tab) : Prop where
  e : T.en 19 = none
  f : T.fn 19 = some fax_coder_write
  fax_coder_ahead : H_fax_coder_ahead T
  fax_coder_own : H_fax_coder_own T
  fax_writer_put : H_fax_writer_put T
  fax_vertical : H_fax_vertical T
  fax_run : H_fax_run T
structure H_cosine_block (T : Tab) : Prop where
  e : T.en 272 = none
  f : T.fn 272 = some cosine_block
  cosine_Forward : H_cosine_Forward T
  cosine_order : H_cosine_order T
  cosine_floor : H_cosine_floor T
  cosine_number : H_cosine_number T
structure H_cosine_reader_block (T : Tab) : Prop where
  e : T.en 273 = none
  f : T.fn 273 = some cosine_reader_block
  cosine_order : H_cosine_order T
  cosine_reader_octet : H_cosine_reader_octet T
  cosine_reader_number : H_cosine_reader_number T
structure H_fax_modes (T : Tab) : Prop where
  e : T.en 37 = none
  f : T.fn 37 = some fax_modes
  fax_filler_straight : H_fax_filler_straight T
  fax_filler_one : H_fax_filler_one T
  fax_filler_horizontal : H_fax_filler_horizontal T
  fax_filler_pass : H_fax_filler_pass T
  fax_filler_two : H_fax_filler_two T
  fax_filler_three : H_fax_filler_three T
structure H_lzw_Decode (T : Tab) : Prop where
  e : T.en 247 = none
  f : T.fn 247 = some lzw_Decode
  lzw_reader_expand : H_lzw_reader_expand T
structure H_fax_Encode (T : Tab) : Prop where
  e : T.en 9 = none
  f : T.fn 9 = some fax_Encode
  fax_octets : H_fax_octets T
  fax_unpack : H_fax_unpack T
  fax_writer_put : H_fax_writer_put T
  fax_coder_write : H_fax_coder_write T
structure H_cosine_Encode (T : Tab) : Prop where
  e : T.en 268 = none
  f : T.fn 268 = some cosine_Encode
  cosine_sized : H_cosine_sized T
  cosine_block : H_cosine_block T
structure H_cosine_Decode (T : Tab) : Prop where
  e : T.en 269 = none
  f : T.fn 269 = some cosine_Decode
  cosine_sized : H_cosine_sized T
  cosine_reader_block : H_cosine_reader_block T
  cosine_Inverse : H_cosine_Inverse T
structure H_fax_filler_next (T : Tab) : Prop where
  e : T.en 23 = none
  f : T.fn 23 = some fax_filler_next
  fax_reader_zeros : H_fax_reader_zeros T
  fax_modes : H_fax_modes T
structure H_filter_codings_2_1 (T : Tab) : Prop where
  e : T.en 259 = none
  f : T.fn 259 = some filter_codings_2_1
  fax_Encode : H_fax_Encode T
structure H_filter_codings_3_1 (T : Tab) : Prop where
  e : T.en 262 = none
  f : T.fn 262 = some filter_codings_3_1
  cosine_Encode : H_cosine_Encode T
structure H_filter_codings_3_2 (T : Tab) : Prop where
  e : T.en 263 = none
  f : T.fn 263 = some filter_codings_3_2
  cosine_Decode : H_cosine_Decode T
structure H_fax_Decode (T : Tab) : Prop where
  e : T.en 11 = none
  f : T.fn 11 = some fax_Decode
  fax_filler_next : H_fax_filler_next T
  fax_octets : H_fax_octets T
  fax_writer_put : H_fax_writer_put T
  fax_reader_bit : H_fax_reader_bit T
structure H_filter_codings_3 (T : Tab) : Prop where
  e : T.en 249 = none
  f : T.fn 249 = some filter_codings_3
  filter_codings_3_1 : H_filter_codings_3_1 T
  filter_codings_3_2 : H_filter_codings_3_2 T
  filter_coding_right : H_filter_coding_right T
structure H_filter_codings_2_2 (T : Tab) : Prop where
  e : T.en 260 = none
  f : T.fn 260 = some filter_codings_2_2
  fax_Decode : H_fax_Decode T
structure H_filter_codings_2 (T : Tab) : Prop where
  e : T.en 248 = none
  f : T.fn 248 = some filter_codings_2
  filter_codings_2_1 : H_filter_codings_2_1 T
  filter_codings_2_2 : H_filter_codings_2_2 T
  filter_coding_right : H_filter_coding_right T
structure H_filter_codings (T : Tab) : Prop where
  e : T.en 239 = none
  f : T.fn 239 = some filter_codings
  filter_codings_1 : H_filter_codings_1 T
  ascii_Hex : H_ascii_Hex T
  ascii_Unhex : H_ascii_Unhex T
  ascii_Base85 : H_ascii_Base85 T
  ascii_Unbase85 : H_ascii_Unbase85 T
  runs_Encode : H_runs_Encode T
  runs_Decode : H_runs_Decode T
  lzw_Encode : H_lzw_Encode T
  lzw_Decode : H_lzw_Decode T
  filter_codings_2 : H_filter_codings_2 T
  filter_codings_3 : H_filter_codings_3 T
structure H_filter_of (T : Tab) : Prop where
  e : T.en 234 = none
  f : T.fn 234 = some filter_of
  filter_codings : H_filter_codings T
structure H_filter_all (T : Tab) : Prop where
  e : T.en 235 = none
  f : T.fn 235 = some filter_all
  filter_of : H_filter_of T
structure H_filter_Check (T : Tab) : Prop where
  e : T.en 231 = none
  f : T.fn 231 = some filter_Check
  filter_of : H_filter_of T
structure H_filter_Encode (T : Tab) : Prop where
  e : T.en 232 = none
  f : T.fn 232 = some filter_Encode
  filter_all : H_filter_all T
  slices_Backward_filter_coding_filter_coding : H_slices_Backward_filter_coding_filter_coding T
  filter_apply_string : H_filter_apply_string T
structure H_filter_Decode (T : Tab) : Prop where
  e : T.en 233 = none
  f : T.fn 233 = some filter_Decode
  filter_all : H_filter_all T
  filter_Decode_1 : H_filter_Decode_1 T
  filter_apply_string : H_filter_apply_string T
structure H_chaselaw09_works (T : Tab) : Prop where
  e : T.en 228 = none
  f : T.fn 228 = some chaselaw09_works
  filter_Encode : H_filter_Encode T
  filter_Decode : H_filter_Decode T
  filter_Check : H_filter_Check T
structure H_chaselaw09_FilterChecks (T : Tab) : Prop where
  e : T.en 227 = none
  f : T.fn 227 = some chaselaw09_FilterChecks
  chaselaw09_works : H_chaselaw09_works T
  chaseref09_Draft_Filter : H_chaseref09_Draft_Filter T
  chaseref09_Right : H_chaseref09_Right T
  filter_Check : H_filter_Check T

end Go.Ev.B
