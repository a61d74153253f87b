/- The abstract bodies of the functions, printed by a program of this work. -/
import Derived.Test.YtcjbjemfobdkgaaGreatDoorP04
namespace Go.Ev.B
open Go
def strings_Builder_WriteString : MFun := ⟨2, [.t 4, .t 5], (.seq (.reg [p 4 (.mov (.k (.int .i64 0))), p 5 (.mov (.k .niliface))]) (.seq (.reg [p 6 (.mov 0), w 7 (.call (.k (.fn 109 
  [] [])) [6])]) (.seq (.reg [p 8 (.mov 0), p 9 (.mov 0), p 10 (.nilck 9), p 11 (.faddr 1 10), r 12 (.load none 11), p 13 (.mov 1), w 14 (.append 5 1 1 [(.int .u8 0)] 12 13), p 15 (.nilck 
  8), p 16 (.faddr 1 15), w0 (.store 1 16 14)]) (.seq (.keep [1]) (.seq (.reg [p 17 (.mov 1), p 18 (.lenOf true 17), p 4 (.mov 18), p 5 (.mov (.k .niliface))]) .ret)))))⟩

def ascii_Unhex : MFun := ⟨1, [.t 2, .t 3, .t 4], (.seq (.reg [p 2 (.mov (.k (.str []))), p 3 (.mov (.k (.int .i64 0))), p 4 (.mov (.k (.int .i64 0)))]) (.seq (.reg [p 5 (.mov 0), p 
  6 (.build [(.int .i64 0), (.bool false)] []), n 7 (.box 301 false 6), w 8 (.call (.k (.fn 214 [] [])) [5, 7, (.k (.fn 215 [] []))]), p 9 (.extr 0 8), p 10 (.extr 1 8), p 11 (.extr 2 
  8), p 2 (.mov 9), p 3 (.mov 10), p 4 (.mov 11)]) .ret))⟩

def ascii_Unbase85 : MFun := ⟨1, [.t 2, .t 3, .t 4], (.seq (.reg [p 2 (.mov (.k (.str []))), p 3 (.mov (.k (.int .i64 0))), p 4 (.mov (.k (.int .i64 0)))]) (.seq (.reg [p 5 (.mov 0), 
  p 6 (.build [.nilslice, (.bool false)] []), n 7 (.box 307 false 6), w 8 (.call (.k (.fn 216 [] [])) [5, 7, (.k (.fn 217 [] []))]), p 9 (.extr 0 8), p 10 (.extr 1 8), p 11 (.extr 2 8), 
  p 2 (.mov 9), p 3 (.mov 10), p 4 (.mov 11)]) .ret))⟩

def ascii_read_ascii_half_l0 : MCode := (.block 1 (.seq (.reg [r 24 (.load none 5), r 25 (.load none 4), p 26 (.mov 13), r 27 (.load none 10), w 28 (.call 24 [25, 26, 27])]) (.block 
  2 (.seq (.reg [p 30 (.bin .eql 28 (.k (.int .i64 1))), p 29 (.mov 30)]) (.cond 29 (.seq (.reg [p 31 (.mov 12), p 32 (.bin .add 31 (.k (.int .i64 1))), w0 (.store 1 11 32)]) (.exit 0)) 
  (.seq (.reg [p 34 (.bin .eql 28 (.k (.int .i64 2))), p 33 (.mov 34)]) (.cond 33 (.seq (.reg [w0 (.store 1 6 (.k (.str []))), w0 (.store 1 7 (.k (.int .i64 0))), w0 (.store 1 8 (.k (.int 
  .i64 5)))]) .ret) .skip)))))))
def ascii_read_ascii_half : MFun := ⟨3, [.cell 6 none, .cell 7 none, .cell 8 none], (.seq (.reg [n 4 (.box 302 true 1), n 5 (.box 303 true 2), n 6 (.alloc 9 true [(.str [])]), n 7 (.alloc 
  3 true [(.int .i64 0)]), n 8 (.alloc 30 true [(.int .i64 0)])]) (.scope (.seq (.seq (.reg [p 16 (.mov 0), p 17 (.lenOf true 16), p 18 (.bin .gtr 17 (.k (.int .i64 65536)))]) (.cond 
  18 (.seq (.reg [w0 (.store 1 6 (.k (.str []))), w0 (.store 1 7 (.k (.int .i64 0))), w0 (.store 1 8 (.k (.int .i64 3)))]) .ret) .skip)) (.seq (.reg [n 9 (.alloc 35 false [.nilslice])]) 
  (.seq (.reg [p 19 (.mkfn 218 [] [9]), n 10 (.alloc 310 true [.nilfn]), w0 (.store 1 10 19)]) (.seq (.reg [n 11 (.alloc 3 true [(.int .i64 0)]), w0 (.store 1 11 (.k (.int .i64 0)))]) 
  (.seq .skip (.seq (.seq (.reg [p 20 (.mov 0), w 21 (.call (.k (.fn 219 [] [])) [20])]) (.block 0 (.rangeFunc 21 [22, 23] (.seq (.reg [p 12 (.mov 22)]) (.reg [p 13 (.mov 23)])) ascii_read_ascii_half_l0))) 
  (.seq (.keep [6, 7, 8, 9, 11]) (.seq (.seq (.reg [r 35 (.load none 11), p 36 (.bin .eql 35 (.k (.int .i64 0)))]) (.cond 36 (.seq (.reg [w0 (.store 1 6 (.k (.str []))), w0 (.store 1 
  7 (.k (.int .i64 0))), w0 (.store 1 8 (.k (.int .i64 5)))]) .ret) .skip)) (.seq (.reg [r 38 (.load none 9), r 39 (.b2s 38), w 40 (.call (.k (.fn 220 [] [])) [39]), p 37 (.mov 40), p 
  41 (.extr 0 37), p 42 (.extr 1 37), p 14 (.mov 41), p 15 (.mov 42)]) (.seq (.keep [6, 7, 8, 11, 14, 15]) (.seq (.seq (.reg [p 43 (.mov 15), p 44 (.bin .neq 43 (.k (.int .i64 0)))]) 
  (.cond 44 (.seq (.reg [p 45 (.mov 15), w0 (.store 1 6 (.k (.str []))), w0 (.store 1 7 (.k (.int .i64 0))), w0 (.store 1 8 45)]) .ret) .skip)) (.seq (.regd [.op 1 (r 47 (.load none 11)), 
  .op 0 (p 46 (.mov 14)), .op 2 (w0 (.store 1 6 46)), .re 1, .op 3 (w0 (.store 1 7 47)), .op 4 (w0 (.store 1 8 (.k (.int .i64 0))))]) .ret))))))))))))))⟩

def ascii_half_take : MFun := ⟨3, [.t 6], (.seq (.reg [p 6 (.mov (.k (.int .i64 0)))]) (.seq (.reg [p 8 (.mov 1), w 9 (.call (.k (.fn 221 [] [])) [8]), p 7 (.mov 9)]) (.seq (.block 
  0 (.seq (.reg [p 11 (.mov 1), p 12 (.bin .eql 11 (.k (.int .u8 62))), p 10 (.mov 12)]) (.cond 10 (.seq (.seq (.reg [p 13 (.mov 0), p 14 (.nilck 13), p 15 (.faddr 1 14), r 16 (.load 
  none 15)]) (.cond 16 (.reg [p 17 (.mov 2), p 18 (.mov 0), p 19 (.nilck 18), p 20 (.faddr 0 19), r 21 (.load none 20), p 22 (.bin .shl 21 (.k (.int .u64 4))), p 23 (.conv .u8 22), n 
  24 (.buildSl 5 1 [(.int .u8 0)] [(0, 1, 23)]), w 25 (.call 17 [24])]) .skip)) (.seq (.keep []) (.seq (.reg [p 6 (.mov (.k (.int .i64 1)))]) .ret))) (.seq (.reg [p 27 (.mov 7), p 28 
  (.bin .lss 27 (.k (.int .i64 0))), p 26 (.mov 28)]) (.cond 26 (.seq (.reg [p 6 (.mov (.k (.int .i64 2)))]) .ret) (.seq (.reg [p 30 (.mov 0), p 31 (.nilck 30), p 32 (.faddr 1 31), r 
  33 (.load none 32), p 29 (.mov 33)]) (.cond 29 (.reg [p 34 (.mov 2), p 35 (.mov 0), p 36 (.nilck 35), p 37 (.faddr 0 36), r 38 (.load none 37), p 39 (.bin .shl 38 (.k (.int .u64 4))), 
  p 40 (.mov 7), p 41 (.bin .or 39 40), p 42 (.conv .u8 41), n 43 (.buildSl 5 1 [(.int .u8 0)] [(0, 1, 42)]), w 44 (.call 34 [43])]) .skip))))))) (.seq (.keep [0, 7]) (.seq (.reg [p 45 
  (.mov 0), p 46 (.mov 0), p 47 (.mov 7), p 48 (.mov 0), p 49 (.nilck 48), p 50 (.faddr 1 49), r 51 (.load none 50), p 52 (.un .not 51), p 53 (.nilck 45), p 54 (.faddr 0 53), w0 (.store 
  1 54 47), p 55 (.nilck 46), p 56 (.faddr 1 55), w0 (.store 1 56 52)]) (.seq (.keep []) (.seq (.reg [p 6 (.mov (.k (.int .i64 0)))]) .ret)))))))⟩

def ascii_read_ascii_tens_l0 : MCode := (.block 1 (.seq (.reg [r 24 (.load none 5), r 25 (.load none 4), p 26 (.mov 13), r 27 (.load none 10), w 28 (.call 24 [25, 26, 27])]) (.block 
  2 (.seq (.reg [p 30 (.bin .eql 28 (.k (.int .i64 1))), p 29 (.mov 30)]) (.cond 29 (.seq (.reg [p 31 (.mov 12), p 32 (.bin .add 31 (.k (.int .i64 1))), w0 (.store 1 11 32)]) (.exit 0)) 
  (.seq (.reg [p 34 (.bin .eql 28 (.k (.int .i64 2))), p 33 (.mov 34)]) (.cond 33 (.seq (.reg [w0 (.store 1 6 (.k (.str []))), w0 (.store 1 7 (.k (.int .i64 0))), w0 (.store 1 8 (.k (.int 
  .i64 5)))]) .ret) .skip)))))))
def ascii_read_ascii_tens : MFun := ⟨3, [.cell 6 none, .cell 7 none, .cell 8 none], (.seq (.reg [n 4 (.box 308 true 1), n 5 (.box 309 true 2), n 6 (.alloc 9 true [(.str [])]), n 7 (.alloc 
  3 true [(.int .i64 0)]), n 8 (.alloc 30 true [(.int .i64 0)])]) (.scope (.seq (.seq (.reg [p 16 (.mov 0), p 17 (.lenOf true 16), p 18 (.bin .gtr 17 (.k (.int .i64 65536)))]) (.cond 
  18 (.seq (.reg [w0 (.store 1 6 (.k (.str []))), w0 (.store 1 7 (.k (.int .i64 0))), w0 (.store 1 8 (.k (.int .i64 3)))]) .ret) .skip)) (.seq (.reg [n 9 (.alloc 35 false [.nilslice])]) 
  (.seq (.reg [p 19 (.mkfn 222 [] [9]), n 10 (.alloc 310 true [.nilfn]), w0 (.store 1 10 19)]) (.seq (.reg [n 11 (.alloc 3 true [(.int .i64 0)]), w0 (.store 1 11 (.k (.int .i64 0)))]) 
  (.seq .skip (.seq (.seq (.reg [p 20 (.mov 0), w 21 (.call (.k (.fn 219 [] [])) [20])]) (.block 0 (.rangeFunc 21 [22, 23] (.seq (.reg [p 12 (.mov 22)]) (.reg [p 13 (.mov 23)])) ascii_read_ascii_tens_l0))) 
  (.seq (.keep [6, 7, 8, 9, 11]) (.seq (.seq (.reg [r 35 (.load none 11), p 36 (.bin .eql 35 (.k (.int .i64 0)))]) (.cond 36 (.seq (.reg [w0 (.store 1 6 (.k (.str []))), w0 (.store 1 
  7 (.k (.int .i64 0))), w0 (.store 1 8 (.k (.int .i64 5)))]) .ret) .skip)) (.seq (.reg [r 38 (.load none 9), r 39 (.b2s 38), w 40 (.call (.k (.fn 220 [] [])) [39]), p 37 (.mov 40), p 
  41 (.extr 0 37), p 42 (.extr 1 37), p 14 (.mov 41), p 15 (.mov 42)]) (.seq (.keep [6, 7, 8, 11, 14, 15]) (.seq (.seq (.reg [p 43 (.mov 15), p 44 (.bin .neq 43 (.k (.int .i64 0)))]) 
  (.cond 44 (.seq (.reg [p 45 (.mov 15), w0 (.store 1 6 (.k (.str []))), w0 (.store 1 7 (.k (.int .i64 0))), w0 (.store 1 8 45)]) .ret) .skip)) (.seq (.regd [.op 1 (r 47 (.load none 11)), 
  .op 0 (p 46 (.mov 14)), .op 2 (w0 (.store 1 6 46)), .re 1, .op 3 (w0 (.store 1 7 47)), .op 4 (w0 (.store 1 8 (.k (.int .i64 0))))]) .ret))))))))))))))⟩

def ascii_tens_take : MFun := ⟨3, [.t 6], (.seq (.reg [p 6 (.mov (.k (.int .i64 0)))]) (.seq (.block 0 (.seq (.reg [p 42 (.mov 0), p 43 (.nilck 42), p 44 (.faddr 1 43), r 45 (.load 
  none 44), p 41 (.mov 45)]) (.cond 41 (.seq (.seq (.reg [p 46 (.mov 1), p 47 (.bin .neq 46 (.k (.int .u8 62)))]) (.cond 47 (.seq (.reg [p 6 (.mov (.k (.int .i64 2)))]) .ret) .skip)) 
  (.seq (.reg [p 48 (.mov 0), p 49 (.mov 2), w 50 (.call (.k (.fn 223 [] [])) [48, 49]), p 6 (.mov 50)]) .ret)) (.seq (.reg [p 52 (.mov 1), p 53 (.bin .eql 52 (.k (.int .u8 126))), p 
  51 (.mov 53)]) (.cond 51 (.reg [p 54 (.mov 0), p 55 (.nilck 54), p 56 (.faddr 1 55), w0 (.store 1 56 (.k (.bool true)))]) (.seq (.reg [p 58 (.mov 1), p 59 (.bin .eql 58 (.k (.int .u8 
  122))), p 57 (.mov 59)]) (.cond 57 (.seq (.seq (.reg [p 60 (.mov 0), p 61 (.nilck 60), p 62 (.faddr 0 61), r 63 (.load none 62), p 64 (.lenOf false 63), p 65 (.bin .gtr 64 (.k (.int 
  .i64 0)))]) (.cond 65 (.seq (.reg [p 6 (.mov (.k (.int .i64 2)))]) .ret) .skip)) (.reg [p 66 (.mov 2), n 67 (.buildSl 5 4 [(.int .u8 0), (.int .u8 0), (.int .u8 0), (.int .u8 0)] [(0, 
  1, (.k (.int .u8 0))), (1, 1, (.k (.int .u8 0))), (2, 1, (.k (.int .u8 0))), (3, 1, (.k (.int .u8 0)))]), w 68 (.call 66 [67])])) (.seq (.reg [p 70 (.mov 1), p 71 (.bin .lss 70 (.k 
  (.int .u8 33))), p 72 (.mov 71), pg 73 72 false (.mov 1), pg 74 72 false (.bin .gtr 73 (.k (.int .u8 117))), p 75 (.pick 72 (.k (.bool true)) 74), p 69 (.mov 75)]) (.cond 69 (.seq (.reg 
  [p 6 (.mov (.k (.int .i64 2)))]) .ret) (.seq (.reg [p 9 (.mov 0), p 10 (.mov 0), p 11 (.nilck 10), p 12 (.faddr 0 11), r 13 (.load none 12), p 14 (.mov 1), n 15 (.buildSl 5 1 [(.int 
  .u8 0)] [(0, 1, 14)]), w 16 (.append 5 1 1 [(.int .u8 0)] 13 15), p 17 (.nilck 9), p 18 (.faddr 0 17), w0 (.store 1 18 16)]) (.seq (.keep [0, 2]) (.seq (.reg [p 19 (.mov 0), p 20 (.nilck 
  19), p 21 (.faddr 0 20), r 22 (.load none 21), p 23 (.lenOf false 22), p 24 (.bin .eql 23 (.k (.int .i64 5)))]) (.cond 24 (.seq (.reg [p 26 (.mov 0), p 27 (.nilck 26), p 28 (.faddr 
  0 27), r 29 (.load none 28), w 30 (.call (.k (.fn 224 [] [])) [29]), p 25 (.mov 30), p 31 (.extr 0 25), p 32 (.extr 1 25), n 7 (.alloc 318 false [(.int .u8 0), (.int .u8 0), (.int .u8 
  0), (.int .u8 0)]), w0 (.store 4 7 31), p 8 (.mov 32)]) (.seq (.keep [0, 2, 7, 8]) (.seq (.seq (.reg [p 33 (.mov 8), p 34 (.un .not 33)]) (.cond 34 (.seq (.reg [p 6 (.mov (.k (.int 
  .i64 2)))]) .ret) .skip)) (.seq (.reg [p 35 (.mov 2), p 36 (.subA 4 1 7 none none none), w 37 (.call 35 [36])]) (.reg [p 38 (.mov 0), p 39 (.nilck 38), p 40 (.faddr 0 39), w0 (.store 
  1 40 (.k .nilslice))]))))) .skip))))))))))))) (.seq (.keep []) (.seq (.reg [p 6 (.mov (.k (.int .i64 0)))]) .ret))))⟩

def ascii_read_ascii_half_1 : MFun := ⟨2, [], (.reg [r 3 (.load none 1), p 4 (.mov 0), w 5 (.append 5 1 1 [(.int .u8 0)] 3 4), w0 (.store 1 1 5)])⟩

def ascii_solid : MFun := ⟨1, [.t 2], (.seq (.reg [n 1 (.box 9 false 0), p 2 (.mov (.k .nilfn))]) (.seq (.reg [p 3 (.mkfn 225 [] [1]), p 2 (.mov 3)]) .ret))⟩

def ascii_bounded : MFun := ⟨1, [.t 2, .t 3], (.seq (.reg [p 2 (.mov (.k (.str []))), p 3 (.mov (.k (.int .i64 0)))]) (.seq (.seq (.reg [p 4 (.mov 0), p 5 (.lenOf true 4), p 6 (.bin 
  .gtr 5 (.k (.int .i64 65536)))]) (.cond 6 (.seq (.reg [p 2 (.mov (.k (.str []))), p 3 (.mov (.k (.int .i64 3)))]) .ret) .skip)) (.seq (.reg [p 7 (.mov 0), p 2 (.mov 7), p 3 (.mov (.k 
  (.int .i64 0)))]) .ret)))⟩

def ascii_nibble : MFun := ⟨1, [.t 2], (.seq (.reg [p 2 (.mov (.k (.int .i64 0)))]) (.seq (.seq (.reg [p 3 (.mov 0), p 4 (.bin .geq 3 (.k (.int .u8 97))), p 5 (.mov 4), pg 6 5 true 
  (.mov 0), pg 7 5 true (.bin .leq 6 (.k (.int .u8 102))), p 8 (.pick 5 7 (.k (.bool false)))]) (.cond 8 (.reg [p 9 (.mov 0), p 10 (.bin .sub 9 (.k (.int .u8 32))), p 0 (.mov 10)]) .skip)) 
  (.seq (.keep [0]) (.seq (.reg [p 11 (.mov 0), w 12 (.call (.k (.fn 84 [] [])) [(.k (.str [48, 49, 50, 51, 52, 53, 54, 55, 56, 57, 65, 66, 67, 68, 69, 70])), 11]), p 2 (.mov 12)]) .ret))))⟩

def ascii_read_ascii_tens_1 : MFun := ⟨2, [], (.reg [r 3 (.load none 1), p 4 (.mov 0), w 5 (.append 5 1 1 [(.int .u8 0)] 3 4), w0 (.store 1 1 5)])⟩

def ascii_tens_close_l0 : MCode := (.seq (.keep [1, 5, 6]) (.seq (.seq (.reg [p 22 (.mov 6), p 23 (.lenOf false 22), p 24 (.bin .lss 23 (.k (.int .i64 5)))]) (.cond 24 .skip (.exit 
  0))) (.block 1 (.reg [p 25 (.mov 6), n 26 (.buildSl 5 1 [(.int .u8 0)] [(0, 1, (.k (.int .u8 117)))]), w 27 (.append 5 1 1 [(.int .u8 0)] 25 26), p 6 (.mov 27)]))))
def ascii_tens_close : MFun := ⟨2, [.t 4], (.seq (.reg [p 4 (.mov (.k (.int .i64 0)))]) (.seq (.reg [p 9 (.mov 0), p 10 (.nilck 9), p 11 (.faddr 0 10), r 12 (.load none 11), p 13 (.lenOf 
  false 12), p 5 (.mov 13)]) (.seq (.seq (.reg [p 14 (.mov 5), p 15 (.bin .eql 14 (.k (.int .i64 1)))]) (.cond 15 (.seq (.reg [p 4 (.mov (.k (.int .i64 2)))]) .ret) .skip)) (.seq (.seq 
  (.reg [p 16 (.mov 5), p 17 (.bin .gtr 16 (.k (.int .i64 1)))]) (.cond 17 (.seq (.reg [p 18 (.mov 0), p 19 (.nilck 18), p 20 (.faddr 0 19), r 21 (.load none 20), p 6 (.mov 21)]) (.seq 
  (.block 0 (.loop ascii_tens_close_l0)) (.seq (.keep [1, 5, 6]) (.seq (.reg [p 29 (.mov 6), w 30 (.call (.k (.fn 224 [] [])) [29]), p 28 (.mov 30), p 31 (.extr 0 28), p 32 (.extr 1 28), 
  n 7 (.alloc 318 false [(.int .u8 0), (.int .u8 0), (.int .u8 0), (.int .u8 0)]), w0 (.store 4 7 31), p 8 (.mov 32)]) (.seq (.keep [1, 5, 7, 8]) (.seq (.seq (.reg [p 33 (.mov 8), p 34 
  (.un .not 33)]) (.cond 34 (.seq (.reg [p 4 (.mov (.k (.int .i64 2)))]) .ret) .skip)) (.reg [p 35 (.mov 1), p 36 (.mov 5), p 37 (.bin .sub 36 (.k (.int .i64 1))), p 38 (.subA 4 1 7 none 
  (some 37) none), w 39 (.call 35 [38])]))))))) .skip)) (.seq (.keep []) (.seq (.reg [p 4 (.mov (.k (.int .i64 1)))]) .ret))))))⟩

def ascii_fold_l0 : MCode := (.seq (.keep [2, 4, 7, 8, 9]) (.seq (.reg [p 10 (.bin .lss 9 8)]) (.seq (.cond 10 .skip (.exit 0)) (.seq (.block 1 (.seq (.reg [p 11 (.iaddrS 1 7 9), r 
  12 (.load none 11), p 6 (.mov 12)]) (.reg [p 13 (.mov 4), p 14 (.bin .mul 13 (.k (.int .u64 85))), p 15 (.mov 6), p 16 (.bin .sub 15 (.k (.int .u8 33))), p 17 (.conv .u64 16), p 18 
  (.bin .add 14 17), p 4 (.mov 18)]))) (.seq (.keep [2, 4, 7, 8, 9]) (.reg [p 19 (.bin .add 9 (.k (.int .i64 1))), p 9 (.mov 19)]))))))
def ascii_fold : MFun := ⟨1, [.cell 2 (some 4), .t 3], (.seq (.reg [n 2 (.alloc 318 true [(.int .u8 0), (.int .u8 0), (.int .u8 0), (.int .u8 0)]), p 3 (.mov (.k (.bool false)))]) (.seq 
  (.reg [p 4 (.mov (.k (.int .u64 0)))]) (.seq (.seq (.reg [p 7 (.mov 0), p 8 (.lenOf false 7), p 9 (.mov (.k (.int .i64 0)))]) (.block 0 (.loop ascii_fold_l0))) (.seq (.keep [2, 4]) 
  (.seq (.reg [p 20 (.mov 4), p 21 (.bin .shr 20 (.k (.int .u64 24))), p 22 (.conv .u8 21), p 23 (.mov 4), p 24 (.bin .shr 23 (.k (.int .u64 16))), p 25 (.conv .u8 24), p 26 (.mov 4), 
  p 27 (.bin .shr 26 (.k (.int .u64 8))), p 28 (.conv .u8 27), p 29 (.mov 4), p 30 (.conv .u8 29), p 31 (.build [(.int .u8 0), (.int .u8 0), (.int .u8 0), (.int .u8 0)] [(0, 1, 22), (1, 
  1, 25), (2, 1, 28), (3, 1, 30)]), p 32 (.mov 4), p 33 (.bin .lss 32 (.k (.int .u64 4294967296))), w0 (.store 4 2 31), p 3 (.mov 33)]) .ret)))))⟩

def ascii_solid_1_l0 : MCode := (.seq (.keep [0, 1, 5, 6]) (.seq (.reg [p 7 (.bin .lss 6 5)]) (.seq (.cond 7 .skip (.exit 0)) (.seq (.block 1 (.seq (.reg [p 8 (.mov 6), p 3 (.mov 8)]) 
  (.seq (.reg [r 9 (.load none 1), p 10 (.mov 3), p 11 (.idxS 9 10), w 12 (.call (.k (.fn 226 [] [])) [11]), p 13 (.un .not 12), p 14 (.mov 13), pg 15 14 true (.mov 0), pg 16 14 true 
  (.mov 3), rg 17 14 true (.load none 1), pg 18 14 true (.mov 3), pg 19 14 true (.idxS 17 18), wg 20 14 true (.call 15 [16, 19]), pg 21 14 true (.un .not 20), p 22 (.pick 14 21 (.k (.bool 
  false)))]) (.cond 22 .ret .skip)))) (.seq (.keep [0, 1, 5, 6]) (.reg [p 23 (.bin .add 6 (.k (.int .i64 1))), p 6 (.mov 23)]))))))
def ascii_solid_1 : MFun := ⟨2, [], (.seq (.reg [r 4 (.load none 1), p 5 (.lenOf true 4), p 6 (.mov (.k (.int .i64 0)))]) (.block 0 (.loop ascii_solid_1_l0)))⟩

def ascii_blank : MFun := ⟨1, [.t 2], (.seq (.reg [p 2 (.mov (.k (.bool false)))]) (.seq (.reg [p 3 (.mov 0), p 4 (.bin .eql 3 (.k (.int .u8 0))), p 5 (.mov 4), pg 6 5 false (.mov 0), 
  pg 7 5 false (.bin .eql 6 (.k (.int .u8 9))), p 8 (.pick 5 (.k (.bool true)) 7), p 9 (.mov 8), pg 10 9 false (.mov 0), pg 11 9 false (.bin .eql 10 (.k (.int .u8 10))), p 12 (.pick 9 
  (.k (.bool true)) 11), p 13 (.mov 12), pg 14 13 false (.mov 0), pg 15 13 false (.bin .eql 14 (.k (.int .u8 12))), p 16 (.pick 13 (.k (.bool true)) 15), p 17 (.mov 16), pg 18 17 false 
  (.mov 0), pg 19 17 false (.bin .eql 18 (.k (.int .u8 13))), p 20 (.pick 17 (.k (.bool true)) 19), p 21 (.mov 20), pg 22 21 false (.mov 0), pg 23 21 false (.bin .eql 22 (.k (.int .u8 
  32))), p 24 (.pick 21 (.k (.bool true)) 23), p 2 (.mov 24)]) .ret))⟩


structure H_ascii_read_ascii_half_1 (T : Tab) : Prop where
  e : T.en 218 = none
  f : T.fn 218 = some ascii_read_ascii_half_1
structure H_ascii_bounded (T : Tab) : Prop where
  e : T.en 220 = none
  f : T.fn 220 = some ascii_bounded
structure H_ascii_nibble (T : Tab) : Prop where
  e : T.en 221 = none
  f : T.fn 221 = some ascii_nibble
  strings_IndexByte : H_strings_IndexByte T
structure H_ascii_read_ascii_tens_1 (T : Tab) : Prop where
  e : T.en 222 = none
  f : T.fn 222 = some ascii_read_ascii_tens_1
structure H_ascii_fold (T : Tab) : Prop where
  e : T.en 224 = none
  f : T.fn 224 = some ascii_fold
structure H_ascii_blank (T : Tab) : Prop where
  e : T.en 226 = none
  f : T.fn 226 = some ascii_blank
structure H_strings_Builder_WriteString (T : Tab) : Prop where
  e : T.en 169 = none
  f : T.fn 169 = some strings_Builder_WriteString
  strings_Builder_copyCheck : H_strings_Builder_copyCheck T
structure H_ascii_half_take (T : Tab) : Prop where
  e : T.en 215 = none
  f : T.fn 215 = some ascii_half_take
  ascii_nibble : H_ascii_nibble T
structure H_ascii_tens_close (T : Tab) : Prop where
  e : T.en 223 = none
  f : T.fn 223 = some ascii_tens_close
  ascii_fold : H_ascii_fold T
structure H_ascii_solid_1 (T : Tab) : Prop where
  e : T.en 225 = none
  f : T.fn 225 = some ascii_solid_1
  ascii_blank : H_ascii_blank T
structure H_ascii_tens_take (T : Tab) : Prop where
  e : T.en 217 = none
  f : T.fn 217 = some ascii_tens_take
  ascii_tens_close : H_ascii_tens_close T
  ascii_fold : H_ascii_fold T
structure H_ascii_solid (T : Tab) : Prop where
  e : T.en 219 = none
  f : T.fn 219 = some ascii_solid
  ascii_solid_1 : H_ascii_solid_1 T
structure H_ascii_read_ascii_half (T : Tab) : Prop where
  e : T.en 214 = none
  f : T.fn 214 = some ascii_read_ascii_half
  ascii_read_ascii_half_1 : H_ascii_read_ascii_half_1 T
  ascii_solid : H_ascii_solid T
  ascii_bounded : H_ascii_bounded T
structure H_ascii_read_ascii_tens (T : Tab) : Prop where
  e : T.en 216 = none
  f : T.fn 216 = some ascii_read_ascii_tens
  ascii_read_ascii_tens_1 : H_ascii_read_ascii_tens_1 T
  ascii_solid : H_ascii_solid T
  ascii_bounded : H_ascii_bounded T
structure H_ascii_Unhex (T : Tab) : Prop where
  e : T.en 211 = none
  f : T.fn 211 = some ascii_Unhex
  ascii_read_ascii_half : H_ascii_read_ascii_half T
  ascii_half_take : H_ascii_half_take T
structure H_ascii_Unbase85 (T : Tab) : Prop where
  e : T.en 212 = none
  f : T.fn 212 = some ascii_Unbase85
  ascii_read_ascii_tens : H_ascii_read_ascii_tens T
  ascii_tens_take : H_ascii_tens_take T
end Go.Ev.B
