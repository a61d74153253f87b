/- The abstract bodies of the functions, printed by a program of this work. -/
import Derived.Test.YtglndmkmfhafhaaEvU
namespace Go.Ev.B
open Go
def chaselaw07_FaxEncodes_l0 : MCode := (.seq (.keep [32, 33]) (.seq (.reg [⟨(some 34), none, .p (.bin .lss (.t 33) (.k (.int .i64 3)))⟩]) (.seq (.cond (.t 34) .skip (.exit 0)) (.seq
  (.block 1 (.seq (.reg [⟨(some 35), none, .p (.idxA 3 2 (some 2) (.t 32) (.t 33))⟩, ⟨(some 8), none, .n (.alloc 26 true [(.str []), (.int .i64 0)])⟩, ⟨none, none, .w (.store 2 (.t 8)
  (.t 35))⟩]) (.seq (.reg [⟨(some 37), none, .p (.faddr 0 (.t 8))⟩, ⟨(some 38), none, .r (.load none (.t 37))⟩, ⟨(some 39), none, .p (.faddr 1 (.t 8))⟩, ⟨(some 40), none, .r (.load none
  (.t 39))⟩, ⟨(some 41), none, .w (.call (.k (.fn 9 [] [])) [(.t 38), (.t 40)])⟩, ⟨(some 36), none, .p (.mov (.t 41))⟩, ⟨(some 42), none, .p (.extr 0 (.t 36))⟩, ⟨(some 43), none, .p (.extr
  1 (.t 36))⟩, ⟨(some 9), none, .p (.mov (.t 42))⟩, ⟨(some 10), none, .p (.mov (.t 43))⟩]) (.seq (.keep [8, 9, 10, 32, 33]) (.seq (.reg [⟨(some 45), none, .p (.faddr 0 (.t 8))⟩, ⟨(some
  46), none, .r (.load none (.t 45))⟩, ⟨(some 47), none, .p (.faddr 1 (.t 8))⟩, ⟨(some 48), none, .r (.load none (.t 47))⟩, ⟨(some 49), none, .w (.call (.k (.fn 10 [] [])) [(.t 46), (.t
  48)])⟩, ⟨(some 44), none, .p (.mov (.t 49))⟩, ⟨(some 50), none, .p (.extr 0 (.t 44))⟩, ⟨(some 51), none, .p (.extr 1 (.t 44))⟩, ⟨(some 11), none, .p (.mov (.t 50))⟩, ⟨(some 12), none,
  .p (.mov (.t 51))⟩]) (.seq (.keep [9, 10, 11, 12, 32, 33]) (.seq (.reg [⟨(some 52), none, .p (.mov (.t 9))⟩, ⟨(some 53), none, .p (.mov (.t 11))⟩, ⟨(some 54), none, .p (.bin .neq (.t
  52) (.t 53))⟩, ⟨(some 55), none, .p (.mov (.t 54))⟩, ⟨(some 56), some (55, false), .p (.mov (.t 10))⟩, ⟨(some 57), some (55, false), .p (.mov (.t 12))⟩, ⟨(some 58), some (55, false),
  .p (.bin .neq (.t 56) (.t 57))⟩, ⟨(some 59), none, .p (.pick (.t 55) (.k (.bool true)) (.t 58))⟩]) (.seq (.keep [32, 33, 59]) (.cond (.t 59) (.seq (.reg [⟨(some 6), none, .p (.mov (.k
  (.bool false)))⟩]) .ret) .skip))))))))) (.seq (.keep [32, 33]) (.reg [⟨(some 60), none, .p (.bin .add (.t 33) (.k (.int .i64 1)))⟩, ⟨(some 33), none, .p (.mov (.t 60))⟩]))))))
def chaselaw07_FaxEncodes : MFun := ⟨3, [.t 6], (.seq (.reg [⟨(some 5), none, .n (.box 24 true (.t 2))⟩, ⟨(some 6), none, .p (.mov (.k (.bool false)))⟩]) (.seq (.seq (.reg [⟨(some 13),
  none, .w (.call (.k (.fn 6 [] [])) [])⟩, ⟨(some 14), none, .p (.un .not (.t 13))⟩]) (.cond (.t 14) (.seq (.reg [⟨(some 6), none, .p (.mov (.k (.bool false)))⟩]) .ret) .skip)) (.seq
  (.reg [⟨(some 15), none, .p (.mov (.t 0))⟩, ⟨(some 16), none, .p (.mov (.t 0))⟩, ⟨(some 17), none, .p (.lenOf true (.t 16))⟩, ⟨(some 18), none, .p (.minmax false [(.t 17), (.k (.int
  .i64 200))])⟩, ⟨(some 19), none, .p (.subS (.t 15) none (some (.t 18)))⟩, ⟨(some 0), none, .p (.mov (.t 19))⟩]) (.seq (.seq (.regd [.op 4 ⟨(some 24), none, .r (.load (some 2) (.t 5))⟩,
  .op 7 ⟨(some 27), none, .r (.load (some 2) (.t 5))⟩, .op 9 ⟨(some 29), none, .r (.load (some 2) (.t 5))⟩, .op 5 ⟨(some 25), none, .w (.call (.k (.fn 7 [] [])) [(.t 24)])⟩, .re 7, .re
  9, .op 8 ⟨(some 28), none, .w (.call (.k (.fn 8 [] [])) [(.t 27)])⟩, .re 9, .op 10 ⟨(some 30), none, .w (.call (.k (.fn 7 [] [])) [(.t 29)])⟩, .op 0 ⟨(some 20), none, .p (.mov (.t 0))⟩,
  .op 1 ⟨(some 21), none, .p (.mov (.t 1))⟩, .op 2 ⟨(some 22), none, .p (.build [(.str []), (.int .i64 0)] [(0, 1, (.t 20)), (1, 1, (.t 21))])⟩, .op 3 ⟨(some 23), none, .p (.mov (.t 0))⟩,
  .op 6 ⟨(some 26), none, .p (.build [(.str []), (.int .i64 0)] [(0, 1, (.t 23)), (1, 1, (.t 25))])⟩, .op 11 ⟨(some 31), none, .p (.build [(.str []), (.int .i64 0)] [(0, 1, (.t 28)),
  (1, 1, (.t 30))])⟩, .op 12 ⟨(some 32), none, .p (.build [(.str []), (.int .i64 0), (.str []), (.int .i64 0), (.str []), (.int .i64 0)] [(0, 2, (.t 22)), (2, 2, (.t 26)), (4, 2, (.t
  31))])⟩, .op 13 ⟨(some 33), none, .p (.mov (.k (.int .i64 0)))⟩]) (.seq (.keep [32, 33]) (.block 0 (.loop chaselaw07_FaxEncodes_l0)))) (.seq (.keep []) (.seq (.reg [⟨(some 6), none,
  .p (.mov (.k (.bool true)))⟩]) .ret))))))⟩

def chaselaw07_FaxDecodes_l0 : MCode := (.seq (.keep [66, 67]) (.seq (.reg [⟨(some 68), none, .p (.bin .lss (.t 67) (.k (.int .i64 4)))⟩]) (.seq (.cond (.t 68) .skip (.exit 0)) (.seq
  (.block 1 (.seq (.reg [⟨(some 69), none, .p (.idxA 4 2 (some 2) (.t 66) (.t 67))⟩, ⟨(some 15), none, .n (.alloc 26 true [(.str []), (.int .i64 0)])⟩, ⟨none, none, .w (.store 2 (.t 15)
  (.t 69))⟩]) (.seq (.reg [⟨(some 71), none, .p (.faddr 0 (.t 15))⟩, ⟨(some 72), none, .r (.load none (.t 71))⟩, ⟨(some 73), none, .p (.faddr 1 (.t 15))⟩, ⟨(some 74), none, .r (.load
  none (.t 73))⟩, ⟨(some 75), none, .w (.call (.k (.fn 11 [] [])) [(.t 72), (.t 74)])⟩, ⟨(some 70), none, .p (.mov (.t 75))⟩, ⟨(some 76), none, .p (.extr 0 (.t 70))⟩, ⟨(some 77), none,
  .p (.extr 1 (.t 70))⟩, ⟨(some 78), none, .p (.extr 2 (.t 70))⟩, ⟨(some 16), none, .p (.mov (.t 76))⟩, ⟨(some 17), none, .p (.mov (.t 77))⟩, ⟨(some 18), none, .p (.mov (.t 78))⟩]) (.seq
  (.keep [15, 16, 17, 18, 66, 67]) (.seq (.reg [⟨(some 80), none, .p (.faddr 0 (.t 15))⟩, ⟨(some 81), none, .r (.load none (.t 80))⟩, ⟨(some 82), none, .p (.faddr 1 (.t 15))⟩, ⟨(some
  83), none, .r (.load none (.t 82))⟩, ⟨(some 84), none, .w (.call (.k (.fn 12 [] [])) [(.t 81), (.t 83)])⟩, ⟨(some 79), none, .p (.mov (.t 84))⟩, ⟨(some 85), none, .p (.extr 0 (.t 79))⟩,
  ⟨(some 86), none, .p (.extr 1 (.t 79))⟩, ⟨(some 87), none, .p (.extr 2 (.t 79))⟩, ⟨(some 19), none, .p (.mov (.t 85))⟩, ⟨(some 20), none, .p (.mov (.t 86))⟩, ⟨(some 21), none, .p (.mov
  (.t 87))⟩]) (.seq (.keep [16, 17, 18, 19, 20, 21, 66, 67]) (.seq (.reg [⟨(some 88), none, .p (.mov (.t 16))⟩, ⟨(some 89), none, .p (.mov (.t 19))⟩, ⟨(some 90), none, .p (.bin .neq (.t
  88) (.t 89))⟩, ⟨(some 91), none, .p (.mov (.t 90))⟩, ⟨(some 92), some (91, false), .p (.mov (.t 17))⟩, ⟨(some 93), some (91, false), .p (.mov (.t 20))⟩, ⟨(some 94), some (91, false),
  .p (.bin .neq (.t 92) (.t 93))⟩, ⟨(some 95), none, .p (.pick (.t 91) (.k (.bool true)) (.t 94))⟩, ⟨(some 96), none, .p (.mov (.t 95))⟩, ⟨(some 97), some (96, false), .p (.mov (.t 18))⟩,
  ⟨(some 98), some (96, false), .p (.mov (.t 21))⟩, ⟨(some 99), some (96, false), .p (.bin .neq (.t 97) (.t 98))⟩, ⟨(some 100), none, .p (.pick (.t 96) (.k (.bool true)) (.t 99))⟩]) (.seq
  (.keep [66, 67, 100]) (.cond (.t 100) (.seq (.reg [⟨(some 10), none, .p (.mov (.k (.bool false)))⟩]) .ret) .skip))))))))) (.seq (.keep [66, 67]) (.reg [⟨(some 101), none, .p (.bin .add
  (.t 67) (.k (.int .i64 1)))⟩, ⟨(some 67), none, .p (.mov (.t 101))⟩]))))))
def chaselaw07_FaxDecodes : MFun := ⟨5, [.t 10], (.seq (.reg [⟨(some 7), none, .n (.box 24 true (.t 2))⟩, ⟨(some 10), none, .p (.mov (.k (.bool false)))⟩]) (.seq (.seq (.reg [⟨(some
  22), none, .w (.call (.k (.fn 6 [] [])) [])⟩, ⟨(some 23), none, .p (.un .not (.t 22))⟩]) (.cond (.t 23) (.seq (.reg [⟨(some 10), none, .p (.mov (.k (.bool false)))⟩]) .ret) .skip))
  (.seq (.reg [⟨(some 24), none, .p (.mov (.t 0))⟩, ⟨(some 25), none, .p (.mov (.t 0))⟩, ⟨(some 26), none, .p (.lenOf true (.t 25))⟩, ⟨(some 27), none, .p (.minmax false [(.t 26), (.k
  (.int .i64 100))])⟩, ⟨(some 28), none, .p (.subS (.t 24) none (some (.t 27)))⟩, ⟨(some 0), none, .p (.mov (.t 28))⟩]) (.seq (.regd [.op 0 ⟨(some 30), none, .r (.load (some 2) (.t 7))⟩,
  .op 2 ⟨(some 32), none, .r (.load (some 2) (.t 7))⟩, .op 1 ⟨(some 31), none, .w (.call (.k (.fn 8 [] [])) [(.t 30)])⟩, .re 2, .op 3 ⟨(some 33), none, .w (.call (.k (.fn 7 [] [])) [(.t
  32)])⟩, .op 4 ⟨(some 34), none, .w (.call (.k (.fn 10 [] [])) [(.t 31), (.t 33)])⟩, .op 5 ⟨(some 29), none, .p (.mov (.t 34))⟩, .op 6 ⟨(some 35), none, .p (.extr 0 (.t 29))⟩, .op 7
  ⟨(some 36), none, .p (.extr 1 (.t 29))⟩, .op 8 ⟨(some 11), none, .p (.mov (.t 35))⟩, .op 9 ⟨(some 12), none, .p (.mov (.t 36))⟩]) (.seq (.keep [0, 1, 3, 4, 7, 11]) (.seq (.reg [⟨(some
  37), none, .p (.mov (.t 11))⟩, ⟨(some 38), none, .p (.bin .add (.t 37) (.k (.str [1])))⟩, ⟨(some 39), none, .n (.s2b 5 (.t 38))⟩, ⟨(some 13), none, .p (.mov (.t 39))⟩]) (.seq (.reg
  [⟨(some 40), none, .p (.mov (.t 13))⟩, ⟨(some 41), none, .p (.mov (.t 3))⟩, ⟨(some 42), none, .p (.conv .i64 (.t 41))⟩, ⟨(some 43), none, .p (.mov (.t 13))⟩, ⟨(some 44), none, .p (.lenOf
  false (.t 43))⟩, ⟨(some 45), none, .p (.bin .rem (.t 42) (.t 44))⟩, ⟨(some 46), none, .p (.mov (.t 4))⟩, ⟨(some 47), none, .p (.iaddrS 1 (.t 40) (.t 45))⟩, ⟨none, none, .w (.store 1
  (.t 47) (.t 46))⟩]) (.seq (.keep [0, 1, 7, 11, 13]) (.seq (.seq (.regd [.op 4 ⟨(some 52), none, .r (.load (some 2) (.t 7))⟩, .op 10 ⟨(some 58), none, .r (.load (some 2) (.t 7))⟩, .op
  13 ⟨(some 61), none, .p (.mov (.t 13))⟩, .op 14 ⟨(some 62), none, .r (.b2s (.t 61))⟩, .op 15 ⟨(some 63), none, .r (.load (some 2) (.t 7))⟩, .op 5 ⟨(some 53), none, .w (.call (.k (.fn
  7 [] [])) [(.t 52)])⟩, .re 10, .re 14, .re 15, .op 11 ⟨(some 59), none, .w (.call (.k (.fn 7 [] [])) [(.t 58)])⟩, .re 14, .re 15, .op 16 ⟨(some 64), none, .w (.call (.k (.fn 7 [] []))
  [(.t 63)])⟩, .re 14, .op 0 ⟨(some 48), none, .p (.mov (.t 0))⟩, .op 1 ⟨(some 49), none, .p (.mov (.t 1))⟩, .op 2 ⟨(some 50), none, .p (.build [(.str []), (.int .i64 0)] [(0, 1, (.t
  48)), (1, 1, (.t 49))])⟩, .op 3 ⟨(some 51), none, .p (.mov (.t 0))⟩, .op 6 ⟨(some 54), none, .p (.build [(.str []), (.int .i64 0)] [(0, 1, (.t 51)), (1, 1, (.t 53))])⟩, .op 7 ⟨(some
  55), none, .p (.mov (.t 11))⟩, .op 8 ⟨(some 56), none, .p (.mov (.t 0))⟩, .op 9 ⟨(some 57), none, .p (.bin .add (.t 55) (.t 56))⟩, .op 12 ⟨(some 60), none, .p (.build [(.str []), (.int
  .i64 0)] [(0, 1, (.t 57)), (1, 1, (.t 59))])⟩, .op 17 ⟨(some 65), none, .p (.build [(.str []), (.int .i64 0)] [(0, 1, (.t 62)), (1, 1, (.t 64))])⟩, .op 18 ⟨(some 66), none, .p (.build
  [(.str []), (.int .i64 0), (.str []), (.int .i64 0), (.str []), (.int .i64 0), (.str []), (.int .i64 0)] [(0, 2, (.t 50)), (2, 2, (.t 54)), (4, 2, (.t 60)), (6, 2, (.t 65))])⟩, .op
  19 ⟨(some 67), none, .p (.mov (.k (.int .i64 0)))⟩]) (.seq (.keep [66, 67]) (.block 0 (.loop chaselaw07_FaxDecodes_l0)))) (.seq (.keep []) (.seq (.reg [⟨(some 10), none, .p (.mov (.k
  (.bool true)))⟩]) .ret)))))))))))⟩

def chaselaw07_FaxBack_l0 : MCode := (.seq (.keep [6, 7, 60, 61]) (.seq (.reg [⟨(some 62), none, .p (.bin .lss (.t 61) (.t 60))⟩]) (.seq (.cond (.t 62) .skip (.exit 0)) (.seq (.block
  1 (.seq (.reg [⟨(some 63), none, .p (.mov (.t 61))⟩, ⟨(some 12), none, .p (.mov (.t 63))⟩]) (.seq (.reg [⟨(some 65), none, .p (.mov (.t 7))⟩, ⟨(some 66), none, .p (.mov (.t 12))⟩, ⟨(some
  67), none, .p (.subS (.t 65) none (some (.t 66)))⟩, ⟨(some 68), none, .p (.mov (.t 6))⟩, ⟨(some 69), none, .w (.call (.k (.fn 11 [] [])) [(.t 67), (.t 68)])⟩, ⟨(some 64), none, .p (.mov
  (.t 69))⟩, ⟨(some 70), none, .p (.extr 0 (.t 64))⟩, ⟨(some 71), none, .p (.extr 1 (.t 64))⟩, ⟨(some 72), none, .p (.extr 2 (.t 64))⟩, ⟨(some 13), none, .p (.mov (.t 70))⟩, ⟨(some 14),
  none, .p (.mov (.t 71))⟩, ⟨(some 15), none, .p (.mov (.t 72))⟩]) (.seq (.keep [6, 7, 15, 60, 61]) (.seq (.reg [⟨(some 73), none, .p (.mov (.t 15))⟩, ⟨(some 74), none, .p (.bin .neq
  (.t 73) (.k (.int .i64 5)))⟩]) (.cond (.t 74) (.seq (.reg [⟨(some 4), none, .p (.mov (.k (.bool false)))⟩]) .ret) .skip)))))) (.seq (.keep [6, 7, 60, 61]) (.reg [⟨(some 75), none, .p
  (.bin .add (.t 61) (.k (.int .i64 1)))⟩, ⟨(some 61), none, .p (.mov (.t 75))⟩]))))))
def chaselaw07_FaxBack : MFun := ⟨2, [.t 4], (.seq (.reg [⟨(some 2), none, .n (.box 24 true (.t 0))⟩, ⟨(some 4), none, .p (.mov (.k (.bool false)))⟩]) (.seq (.seq (.reg [⟨(some 16),
  none, .w (.call (.k (.fn 6 [] [])) [])⟩, ⟨(some 17), none, .p (.un .not (.t 16))⟩]) (.cond (.t 17) (.seq (.reg [⟨(some 4), none, .p (.mov (.k (.bool false)))⟩]) .ret) .skip)) (.seq
  (.regd [.op 0 ⟨(some 18), none, .r (.load (some 2) (.t 2))⟩, .op 2 ⟨(some 20), none, .r (.load (some 2) (.t 2))⟩, .op 1 ⟨(some 19), none, .w (.call (.k (.fn 8 [] [])) [(.t 18)])⟩, .re
  2, .op 3 ⟨(some 21), none, .w (.call (.k (.fn 7 [] [])) [(.t 20)])⟩, .op 4 ⟨(some 5), none, .p (.mov (.t 19))⟩, .op 5 ⟨(some 6), none, .p (.mov (.t 21))⟩]) (.seq (.reg [⟨(some 23),
  none, .p (.mov (.t 5))⟩, ⟨(some 24), none, .p (.mov (.t 6))⟩, ⟨(some 25), none, .w (.call (.k (.fn 9 [] [])) [(.t 23), (.t 24)])⟩, ⟨(some 22), none, .p (.mov (.t 25))⟩, ⟨(some 26),
  none, .p (.extr 0 (.t 22))⟩, ⟨(some 27), none, .p (.extr 1 (.t 22))⟩, ⟨(some 7), none, .p (.mov (.t 26))⟩, ⟨(some 8), none, .p (.mov (.t 27))⟩]) (.seq (.keep [1, 5, 6, 7, 8]) (.seq
  (.reg [⟨(some 29), none, .p (.mov (.t 7))⟩, ⟨(some 30), none, .p (.mov (.t 1))⟩, ⟨(some 31), none, .p (.mov (.t 1))⟩, ⟨(some 32), none, .p (.lenOf true (.t 31))⟩, ⟨(some 33), none,
  .p (.minmax false [(.t 32), (.k (.int .i64 50))])⟩, ⟨(some 34), none, .p (.subS (.t 30) none (some (.t 33)))⟩, ⟨(some 35), none, .p (.bin .add (.t 29) (.t 34))⟩, ⟨(some 36), none, .p
  (.mov (.t 6))⟩, ⟨(some 37), none, .w (.call (.k (.fn 11 [] [])) [(.t 35), (.t 36)])⟩, ⟨(some 28), none, .p (.mov (.t 37))⟩, ⟨(some 38), none, .p (.extr 0 (.t 28))⟩, ⟨(some 39), none,
  .p (.extr 1 (.t 28))⟩, ⟨(some 40), none, .p (.extr 2 (.t 28))⟩, ⟨(some 9), none, .p (.mov (.t 38))⟩, ⟨(some 10), none, .p (.mov (.t 39))⟩, ⟨(some 11), none, .p (.mov (.t 40))⟩]) (.seq
  (.keep [5, 6, 7, 8, 9, 10, 11]) (.seq (.seq (.reg [⟨(some 41), none, .p (.mov (.t 8))⟩, ⟨(some 42), none, .p (.bin .neq (.t 41) (.k (.int .i64 0)))⟩, ⟨(some 43), none, .p (.mov (.t
  42))⟩, ⟨(some 44), some (43, false), .p (.mov (.t 11))⟩, ⟨(some 45), some (43, false), .p (.bin .neq (.t 44) (.k (.int .i64 0)))⟩, ⟨(some 46), none, .p (.pick (.t 43) (.k (.bool true))
  (.t 45))⟩, ⟨(some 47), none, .p (.mov (.t 46))⟩, ⟨(some 48), some (47, false), .p (.mov (.t 9))⟩, ⟨(some 49), some (47, false), .p (.mov (.t 5))⟩, ⟨(some 50), some (47, false), .p (.bin
  .neq (.t 48) (.t 49))⟩, ⟨(some 51), none, .p (.pick (.t 47) (.k (.bool true)) (.t 50))⟩, ⟨(some 52), none, .p (.mov (.t 51))⟩, ⟨(some 53), some (52, false), .p (.mov (.t 10))⟩, ⟨(some
  54), some (52, false), .p (.mov (.t 7))⟩, ⟨(some 55), some (52, false), .p (.lenOf true (.t 54))⟩, ⟨(some 56), some (52, false), .p (.bin .neq (.t 53) (.t 55))⟩, ⟨(some 57), none, .p
  (.pick (.t 52) (.k (.bool true)) (.t 56))⟩]) (.seq (.keep [6, 7, 57]) (.cond (.t 57) (.seq (.reg [⟨(some 4), none, .p (.mov (.k (.bool false)))⟩]) .ret) .skip))) (.seq (.keep [6, 7])
  (.seq (.seq (.reg [⟨(some 58), none, .p (.mov (.t 7))⟩, ⟨(some 59), none, .p (.lenOf true (.t 58))⟩, ⟨(some 60), none, .p (.minmax false [(.t 59), (.k (.int .i64 200))])⟩, ⟨(some 61),
  none, .p (.mov (.k (.int .i64 0)))⟩]) (.block 0 (.loop chaselaw07_FaxBack_l0))) (.seq (.keep []) (.seq (.reg [⟨(some 4), none, .p (.mov (.k (.bool true)))⟩]) .ret))))))))))))⟩

def chaselaw07_FaxMirrors_l0 : MCode := (.seq (.keep [9, 11, 16]) (.seq (.seq (.reg [⟨(some 86), none, .p (.mov (.t 16))⟩, ⟨(some 87), none, .p (.bin .add (.t 86) (.k (.int .i64 2)))⟩,
  ⟨(some 88), none, .p (.mov (.t 11))⟩, ⟨(some 89), none, .p (.lenOf true (.t 88))⟩, ⟨(some 90), none, .p (.bin .lss (.t 87) (.t 89))⟩, ⟨(some 91), none, .p (.mov (.t 90))⟩, ⟨(some 92),
  some (91, true), .p (.mov (.t 16))⟩, ⟨(some 93), some (91, true), .p (.mov (.t 9))⟩, ⟨(some 94), some (91, true), .p (.lenOf true (.t 93))⟩, ⟨(some 95), some (91, true), .p (.bin .lss
  (.t 92) (.t 94))⟩, ⟨(some 96), none, .p (.pick (.t 91) (.t 95) (.k (.bool false)))⟩]) (.cond (.t 96) .skip (.exit 0))) (.seq (.keep [9, 11, 16]) (.seq (.block 1 (.seq (.regd [.op 0
  ⟨(some 99), none, .p (.mov (.t 9))⟩, .op 1 ⟨(some 100), none, .p (.mov (.t 16))⟩, .op 2 ⟨(some 101), none, .p (.idxS (.t 99) (.t 100))⟩, .op 3 ⟨(some 102), none, .p (.mov (.t 11))⟩,
  .op 4 ⟨(some 103), none, .p (.mov (.t 16))⟩, .op 5 ⟨(some 104), none, .p (.idxS (.t 102) (.t 103))⟩, .op 6 ⟨(some 105), none, .p (.bin .neq (.t 101) (.t 104))⟩]) (.cond (.t 105) (.seq
  (.reg [⟨(some 4), none, .p (.mov (.k (.bool false)))⟩]) .ret) .skip))) (.seq (.keep [9, 11, 16]) (.reg [⟨(some 97), none, .p (.mov (.t 16))⟩, ⟨(some 98), none, .p (.bin .add (.t 97)
  (.k (.int .i64 1)))⟩, ⟨(some 16), none, .p (.mov (.t 98))⟩]))))))
def chaselaw07_FaxMirrors : MFun := ⟨2, [.t 4], (.seq (.reg [⟨(some 2), none, .n (.box 24 true (.t 0))⟩, ⟨(some 4), none, .p (.mov (.k (.bool false)))⟩]) (.seq (.seq (.reg [⟨(some 17),
  none, .w (.call (.k (.fn 6 [] [])) [])⟩, ⟨(some 18), none, .p (.un .not (.t 17))⟩]) (.cond (.t 18) (.seq (.reg [⟨(some 4), none, .p (.mov (.k (.bool false)))⟩]) .ret) .skip)) (.seq
  (.regd [.op 0 ⟨(some 19), none, .r (.load (some 2) (.t 2))⟩, .op 2 ⟨(some 21), none, .r (.load (some 2) (.t 2))⟩, .op 1 ⟨(some 20), none, .w (.call (.k (.fn 8 [] [])) [(.t 19)])⟩, .re
  2, .op 3 ⟨(some 22), none, .w (.call (.k (.fn 7 [] [])) [(.t 21)])⟩, .op 4 ⟨(some 5), none, .p (.mov (.t 20))⟩, .op 5 ⟨(some 6), none, .p (.mov (.t 22))⟩]) (.seq (.reg [⟨(some 23),
  none, .p (.mov (.t 6))⟩, ⟨(some 24), none, .p (.bin .add (.t 23) (.k (.int .i64 7)))⟩, ⟨(some 25), none, .p (.bin .quo (.t 24) (.k (.int .i64 8)))⟩, ⟨(some 7), none, .p (.mov (.t 25))⟩])
  (.seq (.reg [⟨(some 26), none, .p (.mov (.t 5))⟩, ⟨(some 27), none, .p (.mov (.t 1))⟩, ⟨(some 28), none, .p (.conv .i64 (.t 27))⟩, ⟨(some 29), none, .p (.mov (.t 5))⟩, ⟨(some 30), none,
  .p (.lenOf true (.t 29))⟩, ⟨(some 31), none, .p (.mov (.t 7))⟩, ⟨(some 32), none, .p (.bin .quo (.t 30) (.t 31))⟩, ⟨(some 33), none, .p (.bin .add (.t 32) (.k (.int .i64 1)))⟩, ⟨(some
  34), none, .p (.bin .rem (.t 28) (.t 33))⟩, ⟨(some 35), none, .p (.mov (.t 7))⟩, ⟨(some 36), none, .p (.bin .mul (.t 34) (.t 35))⟩, ⟨(some 37), none, .p (.subS (.t 26) none (some (.t
  36)))⟩, ⟨(some 8), none, .p (.mov (.t 37))⟩]) (.seq (.keep [5, 6, 8]) (.seq (.reg [⟨(some 39), none, .p (.mov (.t 5))⟩, ⟨(some 40), none, .p (.mov (.t 6))⟩, ⟨(some 41), none, .w (.call
  (.k (.fn 9 [] [])) [(.t 39), (.t 40)])⟩, ⟨(some 38), none, .p (.mov (.t 41))⟩, ⟨(some 42), none, .p (.extr 0 (.t 38))⟩, ⟨(some 43), none, .p (.extr 1 (.t 38))⟩, ⟨(some 9), none, .p
  (.mov (.t 42))⟩, ⟨(some 10), none, .p (.mov (.t 43))⟩]) (.seq (.keep [6, 8, 9, 10]) (.seq (.reg [⟨(some 45), none, .p (.mov (.t 8))⟩, ⟨(some 46), none, .p (.mov (.t 6))⟩, ⟨(some 47),
  none, .w (.call (.k (.fn 9 [] [])) [(.t 45), (.t 46)])⟩, ⟨(some 44), none, .p (.mov (.t 47))⟩, ⟨(some 48), none, .p (.extr 0 (.t 44))⟩, ⟨(some 49), none, .p (.extr 1 (.t 44))⟩, ⟨(some
  11), none, .p (.mov (.t 48))⟩, ⟨(some 12), none, .p (.mov (.t 49))⟩]) (.seq (.keep [6, 8, 9, 10, 11, 12]) (.seq (.reg [⟨(some 51), none, .p (.mov (.t 11))⟩, ⟨(some 52), none, .p (.mov
  (.t 6))⟩, ⟨(some 53), none, .w (.call (.k (.fn 11 [] [])) [(.t 51), (.t 52)])⟩, ⟨(some 50), none, .p (.mov (.t 53))⟩, ⟨(some 54), none, .p (.extr 0 (.t 50))⟩, ⟨(some 55), none, .p (.extr
  1 (.t 50))⟩, ⟨(some 56), none, .p (.extr 2 (.t 50))⟩, ⟨(some 13), none, .p (.mov (.t 54))⟩, ⟨(some 14), none, .p (.mov (.t 55))⟩, ⟨(some 15), none, .p (.mov (.t 56))⟩]) (.seq (.keep
  [8, 9, 10, 11, 12, 13, 14, 15]) (.seq (.seq (.reg [⟨(some 57), none, .p (.mov (.t 10))⟩, ⟨(some 58), none, .p (.bin .neq (.t 57) (.k (.int .i64 0)))⟩, ⟨(some 59), none, .p (.mov (.t
  58))⟩, ⟨(some 60), some (59, false), .p (.mov (.t 12))⟩, ⟨(some 61), some (59, false), .p (.bin .neq (.t 60) (.k (.int .i64 0)))⟩, ⟨(some 62), none, .p (.pick (.t 59) (.k (.bool true))
  (.t 61))⟩, ⟨(some 63), none, .p (.mov (.t 62))⟩, ⟨(some 64), some (63, false), .p (.mov (.t 15))⟩, ⟨(some 65), some (63, false), .p (.bin .neq (.t 64) (.k (.int .i64 0)))⟩, ⟨(some 66),
  none, .p (.pick (.t 63) (.k (.bool true)) (.t 65))⟩, ⟨(some 67), none, .p (.mov (.t 66))⟩, ⟨(some 68), some (67, false), .p (.mov (.t 13))⟩, ⟨(some 69), some (67, false), .p (.mov (.t
  8))⟩, ⟨(some 70), some (67, false), .p (.bin .neq (.t 68) (.t 69))⟩, ⟨(some 71), none, .p (.pick (.t 67) (.k (.bool true)) (.t 70))⟩, ⟨(some 72), none, .p (.mov (.t 71))⟩, ⟨(some 73),
  some (72, false), .p (.mov (.t 14))⟩, ⟨(some 74), some (72, false), .p (.mov (.t 11))⟩, ⟨(some 75), some (72, false), .p (.lenOf true (.t 74))⟩, ⟨(some 76), some (72, false), .p (.bin
  .neq (.t 73) (.t 75))⟩, ⟨(some 77), none, .p (.pick (.t 72) (.k (.bool true)) (.t 76))⟩, ⟨(some 78), none, .p (.mov (.t 77))⟩, ⟨(some 79), some (78, false), .p (.mov (.t 11))⟩, ⟨(some
  80), some (78, false), .p (.lenOf true (.t 79))⟩, ⟨(some 81), some (78, false), .p (.mov (.t 9))⟩, ⟨(some 82), some (78, false), .p (.lenOf true (.t 81))⟩, ⟨(some 83), some (78, false),
  .p (.bin .add (.t 82) (.k (.int .i64 1)))⟩, ⟨(some 84), some (78, false), .p (.bin .gtr (.t 80) (.t 83))⟩, ⟨(some 85), none, .p (.pick (.t 78) (.k (.bool true)) (.t 84))⟩]) (.seq (.keep
  [9, 11, 85]) (.cond (.t 85) (.seq (.reg [⟨(some 4), none, .p (.mov (.k (.bool false)))⟩]) .ret) .skip))) (.seq (.keep [9, 11]) (.seq (.seq (.reg [⟨(some 16), none, .p (.mov (.k (.int
  .i64 0)))⟩]) (.block 0 (.loop chaselaw07_FaxMirrors_l0))) (.seq (.keep []) (.seq (.reg [⟨(some 4), none, .p (.mov (.k (.bool true)))⟩]) .ret)))))))))))))))))⟩

def chaselaw07_FaxSame_l0 : MCode := (.seq (.keep [1, 5, 6, 8, 9, 10, 38, 39]) (.seq (.reg [⟨(some 40), none, .p (.bin .lss (.t 39) (.t 38))⟩]) (.seq (.cond (.t 40) .skip (.exit 0))
  (.seq (.block 1 (.seq (.reg [⟨(some 41), none, .p (.mov (.t 39))⟩, ⟨(some 11), none, .p (.mov (.t 41))⟩]) (.seq (.reg [⟨(some 42), none, .p (.mov (.t 8))⟩, ⟨(some 43), none, .p (.mov
  (.t 11))⟩, ⟨(some 44), none, .p (.bin .quo (.t 43) (.k (.int .i64 8)))⟩, ⟨(some 45), none, .p (.idxS (.t 42) (.t 44))⟩, ⟨(some 46), none, .p (.mov (.t 11))⟩, ⟨(some 47), none, .p (.bin
  .rem (.t 46) (.k (.int .i64 8)))⟩, ⟨(some 48), none, .p (.bin .sub (.k (.int .i64 7)) (.t 47))⟩, ⟨(some 49), none, .p (.bin .shr (.t 45) (.t 48))⟩, ⟨(some 50), none, .p (.bin .and (.t
  49) (.k (.int .u8 1)))⟩, ⟨(some 12), none, .p (.mov (.t 50))⟩]) (.seq (.keep [1, 5, 6, 8, 9, 10, 12, 38, 39]) (.seq (.seq (.reg [⟨(some 51), none, .p (.mov (.t 12))⟩, ⟨(some 52), none,
  .p (.mov (.t 10))⟩, ⟨(some 53), none, .p (.bin .neq (.t 51) (.t 52))⟩]) (.cond (.t 53) (.reg [⟨(some 54), none, .p (.mov (.t 9))⟩, ⟨(some 55), none, .p (.bin .add (.t 54) (.k (.int
  .i64 1)))⟩, ⟨(some 9), none, .p (.mov (.t 55))⟩]) .skip)) (.reg [⟨(some 56), none, .p (.mov (.t 12))⟩, ⟨(some 10), none, .p (.mov (.t 56))⟩])))))) (.seq (.keep [1, 5, 6, 8, 9, 10, 38,
  39]) (.reg [⟨(some 57), none, .p (.bin .add (.t 39) (.k (.int .i64 1)))⟩, ⟨(some 39), none, .p (.mov (.t 57))⟩]))))))
def chaselaw07_FaxSame : MFun := ⟨2, [.t 4], (.seq (.reg [⟨(some 2), none, .n (.box 24 true (.t 0))⟩, ⟨(some 4), none, .p (.mov (.k (.bool false)))⟩]) (.seq (.seq (.reg [⟨(some 17),
  none, .w (.call (.k (.fn 6 [] [])) [])⟩, ⟨(some 18), none, .p (.un .not (.t 17))⟩]) (.cond (.t 18) (.seq (.reg [⟨(some 4), none, .p (.mov (.k (.bool false)))⟩]) .ret) .skip)) (.seq
  (.regd [.op 0 ⟨(some 19), none, .r (.load (some 2) (.t 2))⟩, .op 2 ⟨(some 21), none, .r (.load (some 2) (.t 2))⟩, .op 1 ⟨(some 20), none, .w (.call (.k (.fn 8 [] [])) [(.t 19)])⟩, .re
  2, .op 3 ⟨(some 22), none, .w (.call (.k (.fn 7 [] [])) [(.t 21)])⟩, .op 4 ⟨(some 5), none, .p (.mov (.t 20))⟩, .op 5 ⟨(some 6), none, .p (.mov (.t 22))⟩]) (.seq (.reg [⟨(some 23),
  none, .p (.mov (.t 6))⟩, ⟨(some 24), none, .p (.bin .add (.t 23) (.k (.int .i64 7)))⟩, ⟨(some 25), none, .p (.bin .quo (.t 24) (.k (.int .i64 8)))⟩, ⟨(some 7), none, .p (.mov (.t 25))⟩])
  (.seq (.seq (.reg [⟨(some 26), none, .p (.mov (.t 5))⟩, ⟨(some 27), none, .p (.lenOf true (.t 26))⟩, ⟨(some 28), none, .p (.mov (.t 7))⟩, ⟨(some 29), none, .p (.bin .lss (.t 27) (.t
  28))⟩]) (.cond (.t 29) (.reg [⟨(some 30), none, .p (.mov (.t 7))⟩, ⟨(some 31), none, .w (.call (.k (.fn 13 [] [])) [(.k (.str [0])), (.t 30)])⟩, ⟨(some 5), none, .p (.mov (.t 31))⟩])
  .skip)) (.seq (.reg [⟨(some 32), none, .p (.mov (.t 5))⟩, ⟨(some 33), none, .p (.mov (.t 5))⟩, ⟨(some 34), none, .p (.lenOf true (.t 33))⟩, ⟨(some 35), none, .p (.mov (.t 7))⟩, ⟨(some
  36), none, .p (.bin .sub (.t 34) (.t 35))⟩, ⟨(some 37), none, .p (.subS (.t 32) (some (.t 36)) none)⟩, ⟨(some 8), none, .p (.mov (.t 37))⟩]) (.seq (.reg [⟨(some 9), none, .p (.mov (.k
  (.int .i64 0)))⟩, ⟨(some 10), none, .p (.mov (.k (.int .u8 0)))⟩]) (.seq (.seq (.reg [⟨(some 38), none, .p (.mov (.t 6))⟩, ⟨(some 39), none, .p (.mov (.k (.int .i64 0)))⟩]) (.block
  0 (.loop chaselaw07_FaxSame_l0))) (.seq (.keep [1, 5, 6, 8, 9]) (.seq (.reg [⟨(some 59), none, .p (.mov (.t 5))⟩, ⟨(some 60), none, .p (.mov (.t 6))⟩, ⟨(some 61), none, .w (.call (.k
  (.fn 9 [] [])) [(.t 59), (.t 60)])⟩, ⟨(some 58), none, .p (.mov (.t 61))⟩, ⟨(some 62), none, .p (.extr 0 (.t 58))⟩, ⟨(some 63), none, .p (.extr 1 (.t 58))⟩, ⟨(some 13), none, .p (.mov
  (.t 62))⟩, ⟨(some 14), none, .p (.mov (.t 63))⟩]) (.seq (.keep [1, 5, 6, 8, 9, 13, 14]) (.seq (.reg [⟨(some 65), none, .p (.mov (.t 5))⟩, ⟨(some 66), none, .p (.mov (.t 8))⟩, ⟨(some
  67), none, .p (.mov (.t 1))⟩, ⟨(some 68), none, .p (.bin .rem (.t 67) (.k (.int .u8 20)))⟩, ⟨(some 69), none, .p (.conv .i64 (.t 68))⟩, ⟨(some 70), none, .p (.bin .mul (.k (.int .i64
  8)) (.t 69))⟩, ⟨(some 71), none, .w (.call (.k (.fn 13 [] [])) [(.t 66), (.t 70)])⟩, ⟨(some 72), none, .p (.bin .add (.t 65) (.t 71))⟩, ⟨(some 73), none, .p (.mov (.t 6))⟩, ⟨(some 74),
  none, .w (.call (.k (.fn 9 [] [])) [(.t 72), (.t 73)])⟩, ⟨(some 64), none, .p (.mov (.t 74))⟩, ⟨(some 75), none, .p (.extr 0 (.t 64))⟩, ⟨(some 76), none, .p (.extr 1 (.t 64))⟩, ⟨(some
  15), none, .p (.mov (.t 75))⟩, ⟨(some 16), none, .p (.mov (.t 76))⟩]) (.seq (.keep [1, 9, 13, 14, 15, 16]) (.seq (.reg [⟨(some 77), none, .p (.mov (.t 14))⟩, ⟨(some 78), none, .p (.bin
  .eql (.t 77) (.k (.int .i64 0)))⟩, ⟨(some 79), none, .p (.mov (.t 78))⟩, ⟨(some 80), some (79, true), .p (.mov (.t 16))⟩, ⟨(some 81), some (79, true), .p (.bin .eql (.t 80) (.k (.int
  .i64 0)))⟩, ⟨(some 82), none, .p (.pick (.t 79) (.t 81) (.k (.bool false)))⟩, ⟨(some 83), none, .p (.mov (.t 82))⟩, ⟨(some 84), some (83, true), .p (.mov (.t 15))⟩, ⟨(some 85), some
  (83, true), .p (.lenOf true (.t 84))⟩, ⟨(some 86), some (83, true), .p (.mov (.t 13))⟩, ⟨(some 87), some (83, true), .p (.lenOf true (.t 86))⟩, ⟨(some 88), some (83, true), .p (.mov
  (.t 1))⟩, ⟨(some 89), some (83, true), .p (.bin .rem (.t 88) (.k (.int .u8 20)))⟩, ⟨(some 90), some (83, true), .p (.conv .i64 (.t 89))⟩, ⟨(some 91), some (83, true), .p (.mov (.t 9))⟩,
  ⟨(some 92), some (83, true), .p (.bin .add (.t 91) (.k (.int .i64 1)))⟩, ⟨(some 93), some (83, true), .p (.bin .mul (.t 90) (.t 92))⟩, ⟨(some 94), some (83, true), .p (.bin .add (.t
  87) (.t 93))⟩, ⟨(some 95), some (83, true), .p (.bin .eql (.t 85) (.t 94))⟩, ⟨(some 96), none, .p (.pick (.t 83) (.t 95) (.k (.bool false)))⟩, ⟨(some 4), none, .p (.mov (.t 96))⟩])
  .ret))))))))))))))⟩

def chaselaw07_FaxKnown : MFun := ⟨0, [.t 0], (.seq (.reg [⟨(some 0), none, .p (.mov (.k (.bool false)))⟩]) (.seq (.seq (.reg [⟨(some 22), none, .w (.call (.k (.fn 6 [] [])) [])⟩, ⟨(some
  23), none, .p (.un .not (.t 22))⟩]) (.cond (.t 23) (.seq (.reg [⟨(some 0), none, .p (.mov (.k (.bool false)))⟩]) .ret) .skip)) (.seq (.reg [⟨(some 24), none, .w (.call (.k (.fn 14 []
  [])) [(.k (.str [255])), (.k (.str [48, 48, 49, 49, 48, 48, 48, 49, 48, 48, 49, 48, 48, 48, 48, 48, 48, 48, 49]))])⟩, ⟨(some 25), none, .p (.mov (.t 24))⟩, ⟨(some 26), some (25, true),
  .w (.call (.k (.fn 14 [] [])) [(.k (.str [128])), (.k (.str [48, 48, 49, 49, 48, 49, 48, 49, 48, 48, 48, 48, 48, 48, 48, 49]))])⟩, ⟨(some 27), none, .p (.pick (.t 25) (.t 26) (.k (.bool
  false)))⟩, ⟨(some 28), none, .p (.mov (.t 27))⟩, ⟨(some 29), some (28, true), .w (.call (.k (.fn 14 [] [])) [(.k (.str [1])), (.k (.str [48, 49, 48, 49, 48, 48, 48, 48, 48, 48, 48,
  49]))])⟩, ⟨(some 30), none, .p (.pick (.t 28) (.t 29) (.k (.bool false)))⟩, ⟨(some 1), none, .p (.mov (.t 30))⟩]) (.seq (.keep [1]) (.seq (.reg [⟨(some 2), none, .p (.mov (.k (.str
  [48, 48, 49, 48, 48, 49, 48, 48, 48, 49, 48, 49])))⟩]) (.seq (.reg [⟨(some 31), none, .p (.mov (.t 1))⟩, ⟨(some 32), none, .p (.mov (.t 31))⟩, ⟨(some 33), some (32, true), .p (.mov
  (.t 2))⟩, ⟨(some 34), some (32, true), .p (.bin .add (.t 33) (.k (.str [48, 49, 49])))⟩, ⟨(some 35), some (32, true), .p (.bin .add (.t 34) (.k (.str [48, 48, 48, 48, 48, 49, 48])))⟩,
  ⟨(some 36), some (32, true), .p (.bin .add (.t 35) (.k (.str [49])))⟩, ⟨(some 37), some (32, true), .p (.bin .add (.t 36) (.k (.str [48, 48, 48, 48, 48, 48, 48, 49])))⟩, ⟨(some 38),
  some (32, true), .w (.call (.k (.fn 14 [] [])) [(.k (.str [16, 8])), (.t 37)])⟩, ⟨(some 39), none, .p (.pick (.t 32) (.t 38) (.k (.bool false)))⟩, ⟨(some 40), none, .p (.mov (.t 39))⟩,
  ⟨(some 41), some (40, true), .p (.mov (.t 2))⟩, ⟨(some 42), some (40, true), .p (.bin .add (.t 41) (.k (.str [48, 48, 48, 49])))⟩, ⟨(some 43), some (40, true), .p (.bin .add (.t 42)
  (.k (.str [48, 48, 48, 48, 48, 49, 48])))⟩, ⟨(some 44), some (40, true), .p (.bin .add (.t 43) (.k (.str [48, 48, 48, 48, 49, 48])))⟩, ⟨(some 45), some (40, true), .p (.bin .add (.t
  44) (.k (.str [49])))⟩, ⟨(some 46), some (40, true), .p (.bin .add (.t 45) (.k (.str [48, 48, 48, 48, 48, 48, 48, 49])))⟩, ⟨(some 47), some (40, true), .w (.call (.k (.fn 14 [] []))
  [(.k (.str [16, 4])), (.t 46)])⟩, ⟨(some 48), none, .p (.pick (.t 40) (.t 47) (.k (.bool false)))⟩, ⟨(some 1), none, .p (.mov (.t 48))⟩]) (.seq (.keep [1]) (.seq (.reg [⟨(some 3), none,
  .p (.mov (.k (.str [48, 48, 49, 48, 49, 49, 48, 49, 49, 49])))⟩]) (.seq (.reg [⟨(some 49), none, .p (.mov (.t 1))⟩, ⟨(some 50), none, .p (.mov (.t 49))⟩, ⟨(some 51), some (50, true),
  .p (.mov (.t 3))⟩, ⟨(some 52), some (50, true), .p (.bin .add (.t 51) (.k (.str [48, 49, 49])))⟩, ⟨(some 53), some (50, true), .p (.bin .add (.t 52) (.k (.str [48, 49, 49])))⟩, ⟨(some
  54), some (50, true), .p (.bin .add (.t 53) (.k (.str [49])))⟩, ⟨(some 55), some (50, true), .p (.bin .add (.t 54) (.k (.str [48, 48, 48, 48, 48, 48, 48, 49])))⟩, ⟨(some 56), some (50,
  true), .w (.call (.k (.fn 14 [] [])) [(.k (.str [48, 24])), (.t 55)])⟩, ⟨(some 57), none, .p (.pick (.t 50) (.t 56) (.k (.bool false)))⟩, ⟨(some 58), none, .p (.mov (.t 57))⟩, ⟨(some
  59), some (58, true), .p (.mov (.t 3))⟩, ⟨(some 60), some (58, true), .p (.bin .add (.t 59) (.k (.str [49])))⟩, ⟨(some 61), some (58, true), .p (.bin .add (.t 60) (.k (.str [48, 49,
  49])))⟩, ⟨(some 62), some (58, true), .p (.bin .add (.t 61) (.k (.str [49])))⟩, ⟨(some 63), some (58, true), .p (.bin .add (.t 62) (.k (.str [48, 48, 48, 48, 48, 48, 48, 49])))⟩, ⟨(some
  64), some (58, true), .w (.call (.k (.fn 14 [] [])) [(.k (.str [48, 56])), (.t 63)])⟩, ⟨(some 65), none, .p (.pick (.t 58) (.t 64) (.k (.bool false)))⟩, ⟨(some 66), none, .p (.mov (.t
  65))⟩, ⟨(some 67), some (66, true), .p (.mov (.t 3))⟩, ⟨(some 68), some (66, true), .p (.bin .add (.t 67) (.k (.str [48, 48, 48, 48, 49, 48])))⟩, ⟨(some 69), some (66, true), .p (.bin
  .add (.t 68) (.k (.str [48, 49, 48])))⟩, ⟨(some 70), some (66, true), .p (.bin .add (.t 69) (.k (.str [49])))⟩, ⟨(some 71), some (66, true), .p (.bin .add (.t 70) (.k (.str [48, 48,
  48, 48, 48, 48, 48, 49])))⟩, ⟨(some 72), some (66, true), .w (.call (.k (.fn 14 [] [])) [(.k (.str [48, 224])), (.t 71)])⟩, ⟨(some 73), none, .p (.pick (.t 66) (.t 72) (.k (.bool false)))⟩,
  ⟨(some 1), none, .p (.mov (.t 73))⟩]) (.seq (.keep [1]) (.seq (.reg [⟨(some 75), none, .w (.call (.k (.fn 9 [] [])) [(.k (.str [97])), (.k (.int .i64 9))])⟩, ⟨(some 74), none, .p (.mov
  (.t 75))⟩, ⟨(some 76), none, .p (.extr 0 (.t 74))⟩, ⟨(some 77), none, .p (.extr 1 (.t 74))⟩, ⟨(some 4), none, .p (.mov (.t 76))⟩, ⟨(some 5), none, .p (.mov (.t 77))⟩]) (.seq (.reg [⟨(some
  79), none, .w (.call (.k (.fn 9 [] [])) [(.k (.str [1])), (.k (.int .i64 7))])⟩, ⟨(some 78), none, .p (.mov (.t 79))⟩, ⟨(some 80), none, .p (.extr 0 (.t 78))⟩, ⟨(some 81), none, .p
  (.extr 1 (.t 78))⟩, ⟨(some 6), none, .p (.mov (.t 80))⟩, ⟨(some 7), none, .p (.mov (.t 81))⟩]) (.seq (.reg [⟨(some 83), none, .w (.call (.k (.fn 13 [] [])) [(.k (.str [97])), (.k (.int
  .i64 65537))])⟩, ⟨(some 84), none, .w (.call (.k (.fn 9 [] [])) [(.t 83), (.k (.int .i64 0))])⟩, ⟨(some 82), none, .p (.mov (.t 84))⟩, ⟨(some 85), none, .p (.extr 0 (.t 82))⟩, ⟨(some
  86), none, .p (.extr 1 (.t 82))⟩, ⟨(some 8), none, .p (.mov (.t 85))⟩, ⟨(some 9), none, .p (.mov (.t 86))⟩]) (.seq (.reg [⟨(some 88), none, .w (.call (.k (.fn 11 [] [])) [(.k (.str
  [])), (.k (.int .i64 0))])⟩, ⟨(some 87), none, .p (.mov (.t 88))⟩, ⟨(some 89), none, .p (.extr 0 (.t 87))⟩, ⟨(some 90), none, .p (.extr 1 (.t 87))⟩, ⟨(some 91), none, .p (.extr 2 (.t
  87))⟩, ⟨(some 10), none, .p (.mov (.t 89))⟩, ⟨(some 11), none, .p (.mov (.t 90))⟩, ⟨(some 12), none, .p (.mov (.t 91))⟩]) (.seq (.keep [1, 5, 7, 9, 12]) (.seq (.reg [⟨(some 93), none,
  .w (.call (.k (.fn 11 [] [])) [(.k (.str [1])), (.k (.int .i64 129))])⟩, ⟨(some 92), none, .p (.mov (.t 93))⟩, ⟨(some 94), none, .p (.extr 0 (.t 92))⟩, ⟨(some 95), none, .p (.extr 1
  (.t 92))⟩, ⟨(some 96), none, .p (.extr 2 (.t 92))⟩, ⟨(some 13), none, .p (.mov (.t 94))⟩, ⟨(some 14), none, .p (.mov (.t 95))⟩, ⟨(some 15), none, .p (.mov (.t 96))⟩]) (.seq (.keep [1,
  5, 7, 9, 12, 15]) (.seq (.reg [⟨(some 98), none, .w (.call (.k (.fn 13 [] [])) [(.k (.str [255])), (.k (.int .i64 8192))])⟩, ⟨(some 99), none, .p (.bin .add (.t 98) (.k (.str [1])))⟩,
  ⟨(some 100), none, .w (.call (.k (.fn 11 [] [])) [(.t 99), (.k (.int .i64 8))])⟩, ⟨(some 97), none, .p (.mov (.t 100))⟩, ⟨(some 101), none, .p (.extr 0 (.t 97))⟩, ⟨(some 102), none,
  .p (.extr 1 (.t 97))⟩, ⟨(some 103), none, .p (.extr 2 (.t 97))⟩, ⟨(some 16), none, .p (.mov (.t 101))⟩, ⟨(some 17), none, .p (.mov (.t 102))⟩, ⟨(some 18), none, .p (.mov (.t 103))⟩])
  (.seq (.keep [1, 5, 7, 9, 12, 15, 16, 17, 18]) (.seq (.reg [⟨(some 105), none, .w (.call (.k (.fn 13 [] [])) [(.k (.str [255])), (.k (.int .i64 8192))])⟩, ⟨(some 106), none, .p (.bin
  .add (.t 105) (.k (.str [128, 128])))⟩, ⟨(some 107), none, .w (.call (.k (.fn 11 [] [])) [(.t 106), (.k (.int .i64 8))])⟩, ⟨(some 104), none, .p (.mov (.t 107))⟩, ⟨(some 108), none,
  .p (.extr 0 (.t 104))⟩, ⟨(some 109), none, .p (.extr 1 (.t 104))⟩, ⟨(some 110), none, .p (.extr 2 (.t 104))⟩, ⟨(some 19), none, .p (.mov (.t 108))⟩, ⟨(some 20), none, .p (.mov (.t 109))⟩,
  ⟨(some 21), none, .p (.mov (.t 110))⟩]) (.seq (.keep [1, 5, 7, 9, 12, 15, 16, 17, 18, 21]) (.seq (.reg [⟨(some 111), none, .p (.mov (.k (.bool true)))⟩, ⟨(some 112), some (111, true),
  .w (.call (.k (.fn 6 [] [])) [])⟩, ⟨(some 113), none, .p (.pick (.t 111) (.t 112) (.k (.bool false)))⟩, ⟨(some 114), none, .p (.mov (.t 113))⟩, ⟨(some 115), some (114, true), .p (.mov
  (.t 1))⟩, ⟨(some 116), none, .p (.pick (.t 114) (.t 115) (.k (.bool false)))⟩, ⟨(some 117), none, .p (.mov (.t 116))⟩, ⟨(some 118), some (117, true), .p (.mov (.t 5))⟩, ⟨(some 119),
  some (117, true), .p (.bin .eql (.t 118) (.k (.int .i64 170)))⟩, ⟨(some 120), none, .p (.pick (.t 117) (.t 119) (.k (.bool false)))⟩, ⟨(some 121), none, .p (.mov (.t 120))⟩, ⟨(some
  122), some (121, true), .p (.mov (.t 7))⟩, ⟨(some 123), some (121, true), .p (.bin .eql (.t 122) (.k (.int .i64 170)))⟩, ⟨(some 124), none, .p (.pick (.t 121) (.t 123) (.k (.bool false)))⟩,
  ⟨(some 125), none, .p (.mov (.t 124))⟩, ⟨(some 126), some (125, true), .p (.mov (.t 9))⟩, ⟨(some 127), some (125, true), .p (.bin .eql (.t 126) (.k (.int .i64 3)))⟩, ⟨(some 128), none,
  .p (.pick (.t 125) (.t 127) (.k (.bool false)))⟩, ⟨(some 129), none, .p (.mov (.t 128))⟩, ⟨(some 130), some (129, true), .p (.mov (.t 12))⟩, ⟨(some 131), some (129, true), .p (.bin
  .eql (.t 130) (.k (.int .i64 2)))⟩, ⟨(some 132), none, .p (.pick (.t 129) (.t 131) (.k (.bool false)))⟩, ⟨(some 133), none, .p (.mov (.t 132))⟩, ⟨(some 134), some (133, true), .p (.mov
  (.t 15))⟩, ⟨(some 135), some (133, true), .p (.bin .eql (.t 134) (.k (.int .i64 2)))⟩, ⟨(some 136), none, .p (.pick (.t 133) (.t 135) (.k (.bool false)))⟩, ⟨(some 137), none, .p (.mov
  (.t 136))⟩, ⟨(some 138), some (137, true), .p (.mov (.t 18))⟩, ⟨(some 139), some (137, true), .p (.bin .eql (.t 138) (.k (.int .i64 0)))⟩, ⟨(some 140), none, .p (.pick (.t 137) (.t
  139) (.k (.bool false)))⟩, ⟨(some 141), none, .p (.mov (.t 140))⟩, ⟨(some 142), some (141, true), .p (.mov (.t 16))⟩, ⟨(some 143), some (141, true), .w (.call (.k (.fn 13 [] [])) [(.k
  (.str [0])), (.k (.int .i64 65536))])⟩, ⟨(some 144), some (141, true), .p (.bin .eql (.t 142) (.t 143))⟩, ⟨(some 145), none, .p (.pick (.t 141) (.t 144) (.k (.bool false)))⟩, ⟨(some
  146), none, .p (.mov (.t 145))⟩, ⟨(some 147), some (146, true), .p (.mov (.t 17))⟩, ⟨(some 148), some (146, true), .p (.bin .eql (.t 147) (.k (.int .i64 8193)))⟩, ⟨(some 149), none,
  .p (.pick (.t 146) (.t 148) (.k (.bool false)))⟩, ⟨(some 150), none, .p (.mov (.t 149))⟩, ⟨(some 151), some (150, true), .p (.mov (.t 21))⟩, ⟨(some 152), some (150, true), .p (.bin
  .eql (.t 151) (.k (.int .i64 3)))⟩, ⟨(some 153), none, .p (.pick (.t 150) (.t 152) (.k (.bool false)))⟩, ⟨(some 0), none, .p (.mov (.t 153))⟩]) .ret))))))))))))))))))))))⟩

def chaselaw07_works_l0 : MCode := (.seq (.keep [1, 2, 3, 4, 5, 6, 7, 38, 39]) (.seq (.reg [⟨(some 40), none, .p (.bin .lss (.t 39) (.k (.int .i64 3)))⟩]) (.seq (.cond (.t 40) .skip
  (.exit 0)) (.seq (.block 1 (.seq (.reg [⟨(some 41), none, .p (.idxA 3 1 none (.t 38) (.t 39))⟩, ⟨(some 9), none, .p (.mov (.t 41))⟩]) (.seq (.reg [⟨(some 43), none, .p (.mov (.t 9))⟩,
  ⟨(some 44), none, .w (.call (.k (.fn 11 [] [])) [(.t 43), (.k (.int .i64 8))])⟩, ⟨(some 42), none, .p (.mov (.t 44))⟩, ⟨(some 45), none, .p (.extr 0 (.t 42))⟩, ⟨(some 46), none, .p
  (.extr 1 (.t 42))⟩, ⟨(some 47), none, .p (.extr 2 (.t 42))⟩, ⟨(some 10), none, .p (.mov (.t 45))⟩, ⟨(some 11), none, .p (.mov (.t 46))⟩, ⟨(some 12), none, .p (.mov (.t 47))⟩]) (.seq
  (.keep [1, 2, 3, 4, 5, 6, 7, 12, 38, 39]) (.seq (.reg [⟨(some 48), none, .p (.mov (.t 12))⟩, ⟨(some 49), none, .p (.bin .neq (.t 48) (.k (.int .i64 5)))⟩]) (.cond (.t 49) (.seq (.reg
  [⟨(some 0), none, .p (.mov (.k (.bool false)))⟩]) .ret) .skip)))))) (.seq (.keep [1, 2, 3, 4, 5, 6, 7, 38, 39]) (.reg [⟨(some 50), none, .p (.bin .add (.t 39) (.k (.int .i64 1)))⟩,
  ⟨(some 39), none, .p (.mov (.t 50))⟩]))))))
def chaselaw07_works : MFun := ⟨0, [.t 0], (.seq (.reg [⟨(some 0), none, .p (.mov (.k (.bool false)))⟩]) (.seq (.reg [⟨(some 15), none, .w (.call (.k (.fn 14 [] [])) [(.k (.str [])),
  (.k (.str [48, 48, 48, 48, 48, 48, 48, 49]))])⟩, ⟨(some 16), none, .p (.mov (.t 15))⟩, ⟨(some 17), some (16, true), .w (.call (.k (.fn 14 [] [])) [(.k (.str [0])), (.k (.str [49, 48,
  48, 48, 48, 48, 48, 48, 49]))])⟩, ⟨(some 18), none, .p (.pick (.t 16) (.t 17) (.k (.bool false)))⟩, ⟨(some 19), none, .p (.mov (.t 18))⟩, ⟨(some 20), some (19, true), .w (.call (.k
  (.fn 14 [] [])) [(.k (.str [96])), (.k (.str [48, 48, 49, 48, 49, 48, 48, 49, 49, 49, 48, 48, 48, 48, 48, 48, 48, 49]))])⟩, ⟨(some 21), none, .p (.pick (.t 19) (.t 20) (.k (.bool false)))⟩,
  ⟨(some 22), none, .p (.mov (.t 21))⟩, ⟨(some 23), some (22, true), .w (.call (.k (.fn 14 [] [])) [(.k (.str [96, 112])), (.k (.str [48, 48, 49, 48, 49, 48, 48, 49, 49, 49, 49, 48, 49,
  49, 49, 48, 48, 48, 48, 48, 48, 48, 49]))])⟩, ⟨(some 24), none, .p (.pick (.t 22) (.t 23) (.k (.bool false)))⟩, ⟨(some 25), none, .p (.mov (.t 24))⟩, ⟨(some 26), some (25, true), .w
  (.call (.k (.fn 14 [] [])) [(.k (.str [48, 0])), (.k (.str [48, 48, 49, 48, 49, 49, 48, 49, 49, 49, 48, 48, 48, 49, 49, 48, 48, 48, 48, 48, 48, 48, 49]))])⟩, ⟨(some 27), none, .p (.pick
  (.t 25) (.t 26) (.k (.bool false)))⟩, ⟨(some 1), none, .p (.mov (.t 27))⟩]) (.seq (.keep [1]) (.seq (.reg [⟨(some 29), none, .w (.call (.k (.fn 11 [] [])) [(.k (.str [128, 128, 9])),
  (.k (.int .i64 8))])⟩, ⟨(some 28), none, .p (.mov (.t 29))⟩, ⟨(some 30), none, .p (.extr 0 (.t 28))⟩, ⟨(some 31), none, .p (.extr 1 (.t 28))⟩, ⟨(some 32), none, .p (.extr 2 (.t 28))⟩,
  ⟨(some 2), none, .p (.mov (.t 30))⟩, ⟨(some 3), none, .p (.mov (.t 31))⟩, ⟨(some 4), none, .p (.mov (.t 32))⟩]) (.seq (.keep [1, 2, 3, 4]) (.seq (.reg [⟨(some 34), none, .w (.call (.k
  (.fn 11 [] [])) [(.k (.str [1])), (.k (.int .i64 8))])⟩, ⟨(some 33), none, .p (.mov (.t 34))⟩, ⟨(some 35), none, .p (.extr 0 (.t 33))⟩, ⟨(some 36), none, .p (.extr 1 (.t 33))⟩, ⟨(some
  37), none, .p (.extr 2 (.t 33))⟩, ⟨(some 5), none, .p (.mov (.t 35))⟩, ⟨(some 6), none, .p (.mov (.t 36))⟩, ⟨(some 7), none, .p (.mov (.t 37))⟩]) (.seq (.keep [1, 2, 3, 4, 5, 6, 7])
  (.seq (.seq (.reg [⟨(some 38), none, .p (.build [(.str []), (.str []), (.str [])] [(0, 1, (.k (.str [128, 129]))), (1, 1, (.k (.str []))), (2, 1, (.k (.str [0])))])⟩, ⟨(some 39), none,
  .p (.mov (.k (.int .i64 0)))⟩]) (.block 0 (.loop chaselaw07_works_l0))) (.seq (.keep [1, 2, 3, 4, 5, 6, 7]) (.seq (.reg [⟨(some 52), none, .w (.call (.k (.fn 9 [] [])) [(.k (.str [])),
  (.k (.int .i64 129))])⟩, ⟨(some 51), none, .p (.mov (.t 52))⟩, ⟨(some 53), none, .p (.extr 0 (.t 51))⟩, ⟨(some 54), none, .p (.extr 1 (.t 51))⟩, ⟨(some 13), none, .p (.mov (.t 53))⟩,
  ⟨(some 14), none, .p (.mov (.t 54))⟩]) (.seq (.reg [⟨(some 55), none, .p (.mov (.t 1))⟩, ⟨(some 56), none, .p (.mov (.t 55))⟩, ⟨(some 57), some (56, true), .p (.mov (.t 4))⟩, ⟨(some
  58), some (56, true), .p (.bin .eql (.t 57) (.k (.int .i64 0)))⟩, ⟨(some 59), none, .p (.pick (.t 56) (.t 58) (.k (.bool false)))⟩, ⟨(some 60), none, .p (.mov (.t 59))⟩, ⟨(some 61),
  some (60, true), .p (.mov (.t 2))⟩, ⟨(some 62), some (60, true), .p (.bin .eql (.t 61) (.k (.str [0])))⟩, ⟨(some 63), none, .p (.pick (.t 60) (.t 62) (.k (.bool false)))⟩, ⟨(some 64),
  none, .p (.mov (.t 63))⟩, ⟨(some 65), some (64, true), .p (.mov (.t 3))⟩, ⟨(some 66), some (64, true), .p (.bin .eql (.t 65) (.k (.int .i64 2)))⟩, ⟨(some 67), none, .p (.pick (.t 64)
  (.t 66) (.k (.bool false)))⟩, ⟨(some 68), none, .p (.mov (.t 67))⟩, ⟨(some 69), some (68, true), .p (.mov (.t 7))⟩, ⟨(some 70), some (68, true), .p (.bin .eql (.t 69) (.k (.int .i64
  0)))⟩, ⟨(some 71), none, .p (.pick (.t 68) (.t 70) (.k (.bool false)))⟩, ⟨(some 72), none, .p (.mov (.t 71))⟩, ⟨(some 73), some (72, true), .p (.mov (.t 5))⟩, ⟨(some 74), some (72,
  true), .p (.bin .eql (.t 73) (.k (.str [])))⟩, ⟨(some 75), none, .p (.pick (.t 72) (.t 74) (.k (.bool false)))⟩, ⟨(some 76), none, .p (.mov (.t 75))⟩, ⟨(some 77), some (76, true), .p
  (.mov (.t 6))⟩, ⟨(some 78), some (76, true), .p (.bin .eql (.t 77) (.k (.int .i64 1)))⟩, ⟨(some 79), none, .p (.pick (.t 76) (.t 78) (.k (.bool false)))⟩, ⟨(some 80), none, .p (.mov
  (.t 79))⟩, ⟨(some 81), some (80, true), .p (.mov (.t 14))⟩, ⟨(some 82), some (80, true), .p (.bin .eql (.t 81) (.k (.int .i64 2)))⟩, ⟨(some 83), none, .p (.pick (.t 80) (.t 82) (.k
  (.bool false)))⟩, ⟨(some 0), none, .p (.mov (.t 83))⟩]) .ret)))))))))))⟩

def chaseref07_Draft_Width : MFun := ⟨1, [.t 2], (.seq (.reg [⟨(some 1), none, .n (.box 24 true (.t 0))⟩, ⟨(some 2), none, .p (.mov (.k (.int .i64 0)))⟩]) (.seq (.reg [⟨(some 3), none,
  .p (.faddr 0 (.t 1))⟩, ⟨(some 4), none, .r (.load none (.t 3))⟩, ⟨(some 5), none, .p (.bin .rem (.t 4) (.k (.int .u8 128)))⟩, ⟨(some 6), none, .p (.conv .i64 (.t 5))⟩, ⟨(some 7), none,
  .p (.bin .add (.k (.int .i64 1)) (.t 6))⟩, ⟨(some 2), none, .p (.mov (.t 7))⟩]) .ret))⟩

def chaseref07_Draft_Data_l0 : MCode := (.seq (.keep [1, 3, 5, 6, 7, 8, 10, 11]) (.seq (.seq (.reg [⟨(some 46), none, .p (.mov (.t 11))⟩, ⟨(some 47), none, .p (.mov (.t 10))⟩, ⟨(some
  48), none, .p (.bin .leq (.t 46) (.t 47))⟩]) (.cond (.t 48) .skip (.exit 2))) (.seq (.block 3 (.seq (.reg [⟨(some 51), none, .p (.mov (.t 8))⟩, ⟨(some 52), none, .p (.mov (.t 11))⟩,
  ⟨(some 53), none, .p (.iaddrA 3 1 (.t 7) (.k (.int .i64 2)))⟩, ⟨(some 54), none, .r (.load none (.t 53))⟩, ⟨(some 55), none, .p (.conv .i64 (.t 54))⟩, ⟨(some 56), none, .p (.bin .rem
  (.t 55) (.k (.int .i64 2)))⟩, ⟨(some 57), none, .p (.iaddrS 1 (.t 51) (.t 52))⟩, ⟨none, none, .w (.store 1 (.t 57) (.t 56))⟩]) (.seq (.keep [1, 3, 5, 6, 7, 8, 10, 11]) (.seq (.reg [⟨(some
  58), none, .p (.iaddrA 3 1 (.t 7) (.k (.int .i64 2)))⟩, ⟨(some 59), none, .r (.load none (.t 58))⟩, ⟨(some 60), none, .p (.bin .rem (.t 59) (.k (.int .u8 5)))⟩, ⟨(some 61), none, .p
  (.bin .eql (.t 60) (.k (.int .u8 4)))⟩]) (.cond (.t 61) (.reg [⟨(some 62), none, .p (.mov (.t 8))⟩, ⟨(some 63), none, .p (.mov (.t 11))⟩, ⟨(some 64), none, .p (.mov (.t 11))⟩, ⟨(some
  65), none, .p (.iaddrA 3 1 (.t 7) (.k (.int .i64 2)))⟩, ⟨(some 66), none, .r (.load none (.t 65))⟩, ⟨(some 67), none, .p (.conv .i64 (.t 66))⟩, ⟨(some 68), none, .p (.bin .quo (.t 67)
  (.k (.int .i64 5)))⟩, ⟨(some 69), none, .p (.bin .add (.k (.int .i64 1)) (.t 68))⟩, ⟨(some 70), none, .p (.bin .quo (.t 64) (.t 69))⟩, ⟨(some 71), none, .p (.bin .rem (.t 70) (.k (.int
  .i64 2)))⟩, ⟨(some 72), none, .p (.iaddrS 1 (.t 62) (.t 63))⟩, ⟨none, none, .w (.store 1 (.t 72) (.t 71))⟩]) .skip))))) (.seq (.keep [1, 3, 5, 6, 7, 8, 10, 11]) (.reg [⟨(some 49), none,
  .p (.mov (.t 11))⟩, ⟨(some 50), none, .p (.bin .add (.t 49) (.k (.int .i64 1)))⟩, ⟨(some 11), none, .p (.mov (.t 50))⟩])))))
def chaseref07_Draft_Data_l1 : MCode := (.seq (.keep [1, 3, 5, 6, 8]) (.seq (.seq (.reg [⟨(some 76), none, .p (.mov (.t 5))⟩, ⟨(some 77), none, .p (.lenOf false (.t 76))⟩, ⟨(some 78),
  none, .p (.bin .rem (.t 77) (.k (.int .i64 8)))⟩, ⟨(some 79), none, .p (.bin .gtr (.t 78) (.k (.int .i64 0)))⟩]) (.cond (.t 79) .skip (.exit 4))) (.block 5 (.reg [⟨(some 80), none,
  .p (.mov (.t 5))⟩, ⟨(some 81), none, .n (.buildSl 3 1 [(.int .i64 0)] [(0, 1, (.k (.int .i64 0)))])⟩, ⟨(some 82), none, .w (.append 3 1 8 [(.int .i64 0)] (.t 80) (.t 81))⟩, ⟨(some 5),
  none, .p (.mov (.t 82))⟩]))))
def chaseref07_Draft_Data_l2 : MCode := (.seq (.keep [1, 3, 4, 5, 6]) (.seq (.seq (.reg [⟨(some 16), none, .p (.mov (.t 6))⟩, ⟨(some 17), none, .p (.faddr 1 (.t 1))⟩, ⟨(some 18), none,
  .r (.load none (.t 17))⟩, ⟨(some 19), none, .p (.lenOf false (.t 18))⟩, ⟨(some 20), none, .p (.bin .lss (.t 16) (.t 19))⟩, ⟨(some 21), none, .p (.mov (.t 20))⟩, ⟨(some 22), some (21,
  true), .p (.mov (.t 6))⟩, ⟨(some 23), some (21, true), .p (.bin .lss (.t 22) (.k (.int .i64 50)))⟩, ⟨(some 24), none, .p (.pick (.t 21) (.t 23) (.k (.bool false)))⟩]) (.cond (.t 24)
  .skip (.exit 0))) (.seq (.keep [1, 3, 4, 5, 6]) (.seq (.block 1 (.seq (.reg [⟨(some 27), none, .p (.faddr 1 (.t 1))⟩, ⟨(some 28), none, .r (.load none (.t 27))⟩, ⟨(some 29), none, .p
  (.mov (.t 6))⟩, ⟨(some 30), none, .p (.iaddrS 3 (.t 28) (.t 29))⟩, ⟨(some 31), none, .r (.load (some 3) (.t 30))⟩, ⟨(some 7), none, .n (.alloc 46 true [(.int .u8 0), (.int .u8 0), (.int
  .u8 0)])⟩, ⟨none, none, .w (.store 3 (.t 7) (.t 31))⟩]) (.seq (.reg [⟨(some 8), none, .p (.mov (.k .nilslice))⟩]) (.seq (.reg [⟨(some 32), none, .p (.mov (.t 8))⟩, ⟨(some 33), none,
  .p (.mov (.t 4))⟩, ⟨(some 34), none, .w (.append 3 1 8 [(.int .i64 0)] (.t 32) (.t 33))⟩, ⟨(some 8), none, .p (.mov (.t 34))⟩]) (.seq (.regd [.op 0 ⟨(some 35), none, .p (.iaddrA 3 1
  (.t 7) (.k (.int .i64 0)))⟩, .op 1 ⟨(some 36), none, .r (.load none (.t 35))⟩, .op 5 ⟨(some 40), none, .p (.iaddrA 3 1 (.t 7) (.k (.int .i64 1)))⟩, .op 6 ⟨(some 41), none, .r (.load
  none (.t 40))⟩, .op 2 ⟨(some 37), none, .p (.conv .i64 (.t 36))⟩, .op 3 ⟨(some 38), none, .p (.mov (.t 3))⟩, .op 4 ⟨(some 39), none, .p (.bin .rem (.t 37) (.t 38))⟩, .op 7 ⟨(some 42),
  none, .p (.conv .i64 (.t 41))⟩, .op 8 ⟨(some 43), none, .p (.mov (.t 3))⟩, .op 9 ⟨(some 44), none, .p (.bin .rem (.t 42) (.t 43))⟩, .op 10 ⟨(some 9), none, .p (.mov (.t 39))⟩, .op 11
  ⟨(some 10), none, .p (.mov (.t 44))⟩]) (.seq (.keep [1, 3, 5, 6, 7, 8, 9, 10]) (.seq (.seq (.reg [⟨(some 45), none, .p (.mov (.t 9))⟩, ⟨(some 11), none, .p (.mov (.t 45))⟩]) (.block
  2 (.loop chaseref07_Draft_Data_l0))) (.seq (.keep [1, 3, 5, 6, 8]) (.seq (.reg [⟨(some 73), none, .p (.mov (.t 5))⟩, ⟨(some 74), none, .p (.mov (.t 8))⟩, ⟨(some 75), none, .w (.append
  3 1 8 [(.int .i64 0)] (.t 73) (.t 74))⟩, ⟨(some 5), none, .p (.mov (.t 75))⟩]) (.seq (.block 4 (.loop chaseref07_Draft_Data_l1)) (.seq (.keep [1, 3, 5, 6, 8]) (.reg [⟨(some 83), none,
  .p (.mov (.t 8))⟩, ⟨(some 4), none, .p (.mov (.t 83))⟩])))))))))))) (.seq (.keep [1, 3, 4, 5, 6]) (.reg [⟨(some 25), none, .p (.mov (.t 6))⟩, ⟨(some 26), none, .p (.bin .add (.t 25)
  (.k (.int .i64 1)))⟩, ⟨(some 6), none, .p (.mov (.t 26))⟩]))))))
def chaseref07_Draft_Data : MFun := ⟨1, [.t 2], (.seq (.reg [⟨(some 1), none, .n (.box 24 true (.t 0))⟩, ⟨(some 2), none, .p (.mov (.k (.str [])))⟩]) (.seq (.reg [⟨(some 12), none,
  .r (.load (some 2) (.t 1))⟩, ⟨(some 13), none, .w (.call (.k (.fn 7 [] [])) [(.t 12)])⟩, ⟨(some 3), none, .p (.mov (.t 13))⟩]) (.seq (.reg [⟨(some 14), none, .p (.mov (.t 3))⟩, ⟨(some
  15), none, .n (.mkSl 3 1 8 [(.int .i64 0)] (.t 14) (.t 14))⟩, ⟨(some 4), none, .p (.mov (.t 15))⟩]) (.seq (.reg [⟨(some 5), none, .p (.mov (.k .nilslice))⟩]) (.seq (.seq (.reg [⟨(some
  6), none, .p (.mov (.k (.int .i64 0)))⟩]) (.block 0 (.loop chaseref07_Draft_Data_l2))) (.seq (.keep [5]) (.seq (.reg [⟨(some 84), none, .p (.mov (.t 5))⟩, ⟨(some 85), none, .w (.call
  (.k (.fn 15 [] [])) [(.t 84)])⟩, ⟨(some 2), none, .p (.mov (.t 85))⟩]) .ret)))))))⟩

def fax_Encode_l0 : MCode := (.seq (.keep [0, 1, 6, 7, 8, 9]) (.seq (.seq (.reg [⟨(some 33), none, .p (.mov (.t 9))⟩, ⟨(some 34), none, .p (.mov (.t 0))⟩, ⟨(some 35), none, .p (.lenOf
  true (.t 34))⟩, ⟨(some 36), none, .p (.bin .lss (.t 33) (.t 35))⟩]) (.cond (.t 36) .skip (.exit 0))) (.seq (.block 1 (.seq (.reg [⟨(some 41), none, .p (.mov (.t 0))⟩, ⟨(some 42), none,
  .p (.mov (.t 9))⟩, ⟨(some 43), none, .p (.mov (.t 9))⟩, ⟨(some 44), none, .p (.mov (.t 6))⟩, ⟨(some 45), none, .p (.bin .add (.t 43) (.t 44))⟩, ⟨(some 46), none, .p (.subS (.t 41) (some
  (.t 42)) (some (.t 45)))⟩, ⟨(some 47), none, .p (.mov (.t 1))⟩, ⟨(some 48), none, .w (.call (.k (.fn 17 [] [])) [(.t 46), (.t 47)])⟩, ⟨(some 40), none, .p (.mov (.t 48))⟩, ⟨(some 49),
  none, .p (.extr 0 (.t 40))⟩, ⟨(some 50), none, .p (.extr 1 (.t 40))⟩, ⟨(some 10), none, .n (.alloc 54 true (List.replicate 128 (.bool false)))⟩, ⟨none, none, .w (.store 128 (.t 10)
  (.t 49))⟩, ⟨(some 11), none, .p (.mov (.t 50))⟩]) (.seq (.keep [0, 1, 6, 7, 8, 9, 10, 11]) (.seq (.seq (.reg [⟨(some 51), none, .p (.mov (.t 11))⟩, ⟨(some 52), none, .p (.un .not (.t
  51))⟩]) (.cond (.t 52) (.seq (.reg [⟨(some 4), none, .p (.mov (.k (.str [])))⟩, ⟨(some 5), none, .p (.mov (.k (.int .i64 170)))⟩]) .ret) .skip)) (.seq (.seq (.reg [⟨(some 53), none,
  .p (.mov (.t 8))⟩, ⟨(some 54), none, .r (.load (some 128) (.t 10))⟩, ⟨(some 55), none, .p (.nilck (.t 53))⟩, ⟨(some 56), none, .p (.faddr 0 (.t 55))⟩, ⟨(some 57), none, .p (.faddr 0
  (.t 56))⟩, ⟨none, none, .w (.store 128 (.t 57) (.t 54))⟩]) (.seq (.regd [.op 0 ⟨(some 58), none, .r (.load (some 128) (.t 10))⟩, .op 1 ⟨(some 59), none, .p (.mov (.t 8))⟩, .op 2 ⟨(some
  60), none, .p (.nilck (.t 59))⟩, .op 3 ⟨(some 61), none, .p (.faddr 0 (.t 60))⟩, .op 4 ⟨(some 62), none, .p (.faddr 128 (.t 61))⟩, .op 5 ⟨(some 63), none, .r (.load (some 128) (.t 62))⟩,
  .op 6 ⟨(some 64), none, .p (.eqA false (List.replicate 128 .b) (.t 58) (.t 63))⟩, .op 7 ⟨(some 65), none, .p (.mov (.t 64))⟩, .op 8 ⟨(some 66), some (65, true), .r (.load (some 128)
  (.t 10))⟩, .op 9 ⟨(some 67), some (65, true), .p (.build (List.replicate 128 (.bool false)) [])⟩, .op 10 ⟨(some 68), some (65, true), .p (.eqA false (List.replicate 128 .b) (.t 66)
  (.t 67))⟩, .op 11 ⟨(some 69), none, .p (.pick (.t 65) (.t 68) (.k (.bool false)))⟩]) (.seq (.keep [0, 1, 6, 7, 8, 9, 10, 69]) (.cond (.t 69) (.reg [⟨(some 70), none, .p (.mov (.t 7))⟩,
  ⟨(some 71), none, .p (.build [(.int .i64 0), (.int .i64 0)] [(0, 1, (.k (.int .i64 1))), (1, 1, (.k (.int .i64 1)))])⟩, ⟨(some 72), none, .n (.buildSl 62 1 [(.int .i64 0), (.int .i64
  0)] [(0, 2, (.t 71))])⟩, ⟨(some 73), none, .w (.call (.k (.fn 18 [] [])) [(.t 70), (.t 72)])⟩]) (.reg [⟨(some 74), none, .p (.mov (.t 8))⟩, ⟨(some 75), none, .p (.mov (.t 7))⟩, ⟨(some
  76), none, .w (.call (.k (.fn 19 [] [])) [(.t 74), (.t 75)])⟩]))))) (.seq (.keep [0, 1, 6, 7, 8, 9, 10]) (.reg [⟨(some 77), none, .p (.mov (.t 8))⟩, ⟨(some 78), none, .r (.load (some
  128) (.t 10))⟩, ⟨(some 79), none, .p (.nilck (.t 77))⟩, ⟨(some 80), none, .p (.faddr 0 (.t 79))⟩, ⟨(some 81), none, .p (.faddr 128 (.t 80))⟩, ⟨none, none, .w (.store 128 (.t 81) (.t
  78))⟩]))))))) (.seq (.keep [0, 1, 6, 7, 8, 9]) (.reg [⟨(some 37), none, .p (.mov (.t 9))⟩, ⟨(some 38), none, .p (.mov (.t 6))⟩, ⟨(some 39), none, .p (.bin .add (.t 37) (.t 38))⟩, ⟨(some
  9), none, .p (.mov (.t 39))⟩])))))
def fax_Encode : MFun := ⟨2, [.t 4, .t 5], (.seq (.reg [⟨(some 4), none, .p (.mov (.k (.str [])))⟩, ⟨(some 5), none, .p (.mov (.k (.int .i64 0)))⟩]) (.seq (.seq (.reg [⟨(some 12), none,
  .p (.mov (.t 0))⟩, ⟨(some 13), none, .p (.lenOf true (.t 12))⟩, ⟨(some 14), none, .p (.bin .gtr (.t 13) (.k (.int .i64 65536)))⟩]) (.cond (.t 14) (.seq (.reg [⟨(some 4), none, .p (.mov
  (.k (.str [])))⟩, ⟨(some 5), none, .p (.mov (.k (.int .i64 3)))⟩]) .ret) .skip)) (.seq (.seq (.reg [⟨(some 15), none, .p (.mov (.t 1))⟩, ⟨(some 16), none, .p (.bin .lss (.t 15) (.k
  (.int .i64 1)))⟩, ⟨(some 17), none, .p (.mov (.t 16))⟩, ⟨(some 18), some (17, false), .p (.mov (.t 1))⟩, ⟨(some 19), some (17, false), .p (.bin .gtr (.t 18) (.k (.int .i64 128)))⟩,
  ⟨(some 20), none, .p (.pick (.t 17) (.k (.bool true)) (.t 19))⟩]) (.cond (.t 20) (.seq (.reg [⟨(some 4), none, .p (.mov (.k (.str [])))⟩, ⟨(some 5), none, .p (.mov (.k (.int .i64 2)))⟩])
  .ret) .skip)) (.seq (.keep [0, 1]) (.seq (.reg [⟨(some 21), none, .p (.mov (.t 1))⟩, ⟨(some 22), none, .w (.call (.k (.fn 16 [] [])) [(.t 21)])⟩, ⟨(some 6), none, .p (.mov (.t 22))⟩])
  (.seq (.seq (.reg [⟨(some 23), none, .p (.mov (.t 0))⟩, ⟨(some 24), none, .p (.lenOf true (.t 23))⟩, ⟨(some 25), none, .p (.mov (.t 6))⟩, ⟨(some 26), none, .p (.bin .rem (.t 24) (.t
  25))⟩, ⟨(some 27), none, .p (.bin .neq (.t 26) (.k (.int .i64 0)))⟩]) (.cond (.t 27) (.seq (.reg [⟨(some 4), none, .p (.mov (.k (.str [])))⟩, ⟨(some 5), none, .p (.mov (.k (.int .i64
  170)))⟩]) .ret) .skip)) (.seq (.reg [⟨(some 28), none, .p (.build [.nilslice, (.int .i64 0)] [])⟩, ⟨(some 29), none, .n (.box 51 false (.t 28))⟩, ⟨(some 7), none, .p (.mov (.t 29))⟩])
  (.seq (.reg [⟨(some 30), none, .p (.mov (.t 1))⟩, ⟨(some 31), none, .p (.build [(.bool false), (.bool false), (.bool false), (.bool false), (.bool false), (.bool false), (.bool false),
  (.bool false), (.bool false), (.bool false), (.bool false), (.bool false), (.bool false), (.bool false), (.bool false), (.bool false), (.bool false), (.bool false), (.bool false), (.bool
  false), (.bool false), (.bool false), (.bool false), (.bool false), (.bool false), (.bool false), (.bool false), (.bool false), (.bool false), (.bool false), (.bool false), (.bool false),
  (.bool false), (.bool false), (.bool false), (.bool false), (.bool false), (.bool false), (.bool false), (.bool false), (.bool false), (.bool false), (.bool false), (.bool false), (.bool
  false), (.bool false), (.bool false), (.bool false), (.bool false), (.bool false), (.bool false), (.bool false), (.bool false), (.bool false), (.bool false), (.bool false), (.bool false),
  (.bool false), (.bool false), (.bool false), (.bool false), (.bool false), (.bool false), (.bool false), (.bool false), (.bool false), (.bool false), (.bool false), (.bool false), (.bool
  false), (.bool false), (.bool false), (.bool false), (.bool false), (.bool false), (.bool false), (.bool false), (.bool false), (.bool false), (.bool false), (.bool false), (.bool false),
  (.bool false), (.bool false), (.bool false), (.bool false), (.bool false), (.bool false), (.bool false), (.bool false), (.bool false), (.bool false), (.bool false), (.bool false), (.bool
  false), (.bool false), (.bool false), (.bool false), (.bool false), (.bool false), (.bool false), (.bool false), (.bool false), (.bool false), (.bool false), (.bool false), (.bool false),
  (.bool false), (.bool false), (.bool false), (.bool false), (.bool false), (.bool false), (.bool false), (.bool false), (.bool false), (.bool false), (.bool false), (.bool false), (.bool
  false), (.bool false), (.bool false), (.bool false), (.bool false), (.bool false), (.bool false), (.bool false), (.bool false), (.bool false), (.bool false), (.bool false), (.bool false),
  (.bool false), (.bool false), (.bool false), (.bool false), (.bool false), (.bool false), (.bool false), (.bool false), (.bool false), (.bool false), (.bool false), (.bool false), (.bool
  false), (.bool false), (.bool false), (.bool false), (.bool false), (.bool false), (.bool false), (.bool false), (.bool false), (.bool false), (.bool false), (.bool false), (.bool false),
  (.bool false), (.bool false), (.bool false), (.bool false), (.bool false), (.bool false), (.bool false), (.bool false), (.bool false), (.bool false), (.bool false), (.bool false), (.bool
  false), (.bool false), (.bool false), (.bool false), (.bool false), (.bool false), (.bool false), (.bool false), (.bool false), (.bool false), (.bool false), (.bool false), (.bool false),
  (.bool false), (.bool false), (.bool false), (.bool false), (.bool false), (.bool false), (.bool false), (.bool false), (.bool false), (.bool false), (.bool false), (.bool false), (.bool
  false), (.bool false), (.bool false), (.bool false), (.bool false), (.bool false), (.bool false), (.bool false), (.bool false), (.bool false), (.bool false), (.bool false), (.bool false),
  (.bool false), (.bool false), (.bool false), (.bool false), (.bool false), (.bool false), (.bool false), (.bool false), (.bool false), (.bool false), (.bool false), (.bool false), (.bool
  false), (.bool false), (.bool false), (.bool false), (.bool false), (.bool false), (.bool false), (.bool false), (.bool false), (.bool false), (.bool false), (.bool false), (.bool false),
  (.bool false), (.bool false), (.bool false), (.bool false), (.bool false), (.bool false), (.bool false), (.bool false), (.bool false), (.bool false), (.bool false), (.bool false), (.bool
  false), (.bool false), (.bool false), (.bool false), (.bool false), (.bool false), (.bool false), (.bool false), (.bool false), (.bool false), (.bool false), (.bool false), (.int .i64
  0), (.int .i64 0), (.bool false)] [(256, 1, (.t 30))])⟩, ⟨(some 32), none, .n (.box 58 false (.t 31))⟩, ⟨(some 8), none, .p (.mov (.t 32))⟩]) (.seq (.seq (.reg [⟨(some 9), none, .p
  (.mov (.k (.int .i64 0)))⟩]) (.block 0 (.loop fax_Encode_l0))) (.seq (.keep [7]) (.seq (.reg [⟨(some 82), none, .p (.mov (.t 7))⟩, ⟨(some 83), none, .p (.build [(.int .i64 0), (.int
  .i64 0)] [(0, 1, (.k (.int .i64 1))), (1, 1, (.k (.int .i64 8)))])⟩, ⟨(some 84), none, .n (.buildSl 62 1 [(.int .i64 0), (.int .i64 0)] [(0, 2, (.t 83))])⟩, ⟨(some 85), none, .w (.call
  (.k (.fn 18 [] [])) [(.t 82), (.t 84)])⟩]) (.seq (.seq (.reg [⟨(some 86), none, .p (.mov (.t 7))⟩, ⟨(some 87), none, .p (.nilck (.t 86))⟩, ⟨(some 88), none, .p (.faddr 0 (.t 87))⟩,
  ⟨(some 89), none, .r (.load none (.t 88))⟩, ⟨(some 90), none, .p (.lenOf false (.t 89))⟩, ⟨(some 91), none, .p (.bin .gtr (.t 90) (.k (.int .i64 65536)))⟩]) (.cond (.t 91) (.seq (.reg
  [⟨(some 4), none, .p (.mov (.k (.str [])))⟩, ⟨(some 5), none, .p (.mov (.k (.int .i64 3)))⟩]) .ret) .skip)) (.seq (.keep [7]) (.seq (.reg [⟨(some 92), none, .p (.mov (.t 7))⟩, ⟨(some
  93), none, .p (.nilck (.t 92))⟩, ⟨(some 94), none, .p (.faddr 0 (.t 93))⟩, ⟨(some 95), none, .r (.load none (.t 94))⟩, ⟨(some 96), none, .r (.b2s (.t 95))⟩, ⟨(some 4), none, .p (.mov
  (.t 96))⟩, ⟨(some 5), none, .p (.mov (.k (.int .i64 0)))⟩]) .ret))))))))))))))⟩

def chaseref07_Encode_l0 : MCode := (.seq (.keep [6, 8, 9, 10]) (.seq (.seq (.reg [⟨(some 31), none, .p (.mov (.t 10))⟩, ⟨(some 32), none, .p (.mov (.t 6))⟩, ⟨(some 33), none, .p (.lenOf
  false (.t 32))⟩, ⟨(some 34), none, .p (.bin .lss (.t 31) (.t 33))⟩]) (.cond (.t 34) .skip (.exit 0))) (.seq (.block 1 (.seq (.reg [⟨(some 37), none, .p (.mov (.t 8))⟩, ⟨(some 38), none,
  .p (.mov (.t 6))⟩, ⟨(some 39), none, .p (.mov (.t 10))⟩, ⟨(some 40), none, .p (.iaddrS 1 (.t 38) (.t 39))⟩, ⟨(some 41), none, .r (.load none (.t 40))⟩, ⟨(some 42), none, .p (.mov (.t
  9))⟩, ⟨(some 43), none, .w (.call (.k (.fn 21 [] [])) [(.t 41), (.t 42)])⟩, ⟨(some 44), none, .w (.append 3 1 8 [(.int .i64 0)] (.t 37) (.t 43))⟩, ⟨(some 8), none, .p (.mov (.t 44))⟩])
  (.seq (.keep [6, 8, 10]) (.reg [⟨(some 45), none, .p (.mov (.t 6))⟩, ⟨(some 46), none, .p (.mov (.t 10))⟩, ⟨(some 47), none, .p (.iaddrS 1 (.t 45) (.t 46))⟩, ⟨(some 48), none, .r (.load
  none (.t 47))⟩, ⟨(some 9), none, .p (.mov (.t 48))⟩])))) (.seq (.keep [6, 8, 9, 10]) (.reg [⟨(some 35), none, .p (.mov (.t 10))⟩, ⟨(some 36), none, .p (.bin .add (.t 35) (.k (.int .i64
  1)))⟩, ⟨(some 10), none, .p (.mov (.t 36))⟩])))))
def chaseref07_Encode : MFun := ⟨2, [.t 4, .t 5], (.seq (.reg [⟨(some 4), none, .p (.mov (.k (.str [])))⟩, ⟨(some 5), none, .p (.mov (.k (.int .i64 0)))⟩]) (.seq (.seq (.reg [⟨(some
  12), none, .p (.mov (.t 0))⟩, ⟨(some 13), none, .p (.lenOf true (.t 12))⟩, ⟨(some 14), none, .p (.bin .gtr (.t 13) (.k (.int .i64 65536)))⟩]) (.cond (.t 14) (.seq (.reg [⟨(some 4),
  none, .p (.mov (.k (.str [])))⟩, ⟨(some 5), none, .p (.mov (.k (.int .i64 3)))⟩]) .ret) .skip)) (.seq (.seq (.reg [⟨(some 15), none, .p (.mov (.t 1))⟩, ⟨(some 16), none, .p (.bin .lss
  (.t 15) (.k (.int .i64 1)))⟩, ⟨(some 17), none, .p (.mov (.t 16))⟩, ⟨(some 18), some (17, false), .p (.mov (.t 1))⟩, ⟨(some 19), some (17, false), .p (.bin .gtr (.t 18) (.k (.int .i64
  128)))⟩, ⟨(some 20), none, .p (.pick (.t 17) (.k (.bool true)) (.t 19))⟩]) (.cond (.t 20) (.seq (.reg [⟨(some 4), none, .p (.mov (.k (.str [])))⟩, ⟨(some 5), none, .p (.mov (.k (.int
  .i64 2)))⟩]) .ret) .skip)) (.seq (.keep [0, 1]) (.seq (.reg [⟨(some 22), none, .p (.mov (.t 0))⟩, ⟨(some 23), none, .p (.mov (.t 1))⟩, ⟨(some 24), none, .w (.call (.k (.fn 20 [] []))
  [(.t 22), (.t 23)])⟩, ⟨(some 21), none, .p (.mov (.t 24))⟩, ⟨(some 25), none, .p (.extr 0 (.t 21))⟩, ⟨(some 26), none, .p (.extr 1 (.t 21))⟩, ⟨(some 6), none, .p (.mov (.t 25))⟩, ⟨(some
  7), none, .p (.mov (.t 26))⟩]) (.seq (.keep [1, 6, 7]) (.seq (.seq (.reg [⟨(some 27), none, .p (.mov (.t 7))⟩, ⟨(some 28), none, .p (.un .not (.t 27))⟩]) (.cond (.t 28) (.seq (.reg
  [⟨(some 4), none, .p (.mov (.k (.str [])))⟩, ⟨(some 5), none, .p (.mov (.k (.int .i64 170)))⟩]) .ret) .skip)) (.seq (.reg [⟨(some 8), none, .p (.mov (.k .nilslice))⟩]) (.seq (.reg [⟨(some
  29), none, .p (.mov (.t 1))⟩, ⟨(some 30), none, .n (.mkSl 3 1 8 [(.int .i64 0)] (.t 29) (.t 29))⟩, ⟨(some 9), none, .p (.mov (.t 30))⟩]) (.seq (.seq (.reg [⟨(some 10), none, .p (.mov
  (.k (.int .i64 0)))⟩]) (.block 0 (.loop chaseref07_Encode_l0))) (.seq (.keep [8]) (.seq (.reg [⟨(some 49), none, .p (.mov (.t 8))⟩, ⟨(some 50), none, .w (.call (.k (.fn 22 [] [])) [(.k
  (.str [48, 48, 48, 48, 48, 48, 48, 49]))])⟩, ⟨(some 51), none, .w (.append 3 1 8 [(.int .i64 0)] (.t 49) (.t 50))⟩, ⟨(some 52), none, .w (.call (.k (.fn 15 [] [])) [(.t 51)])⟩, ⟨(some
  11), none, .p (.mov (.t 52))⟩]) (.seq (.seq (.reg [⟨(some 53), none, .p (.mov (.t 11))⟩, ⟨(some 54), none, .p (.lenOf true (.t 53))⟩, ⟨(some 55), none, .p (.bin .gtr (.t 54) (.k (.int
  .i64 65536)))⟩]) (.cond (.t 55) (.seq (.reg [⟨(some 4), none, .p (.mov (.k (.str [])))⟩, ⟨(some 5), none, .p (.mov (.k (.int .i64 3)))⟩]) .ret) .skip)) (.seq (.reg [⟨(some 56), none,
  .p (.mov (.t 11))⟩, ⟨(some 4), none, .p (.mov (.t 56))⟩, ⟨(some 5), none, .p (.mov (.k (.int .i64 0)))⟩]) .ret))))))))))))))⟩

def fax_Decode_l0 : MCode := (.seq (.keep [1, 7, 8, 9, 49, 50]) (.seq (.reg [⟨(some 51), none, .p (.bin .lss (.t 50) (.t 49))⟩]) (.seq (.cond (.t 51) .skip (.exit 2)) (.seq (.block
  3 (.seq (.reg [⟨(some 52), none, .p (.mov (.t 50))⟩, ⟨(some 12), none, .p (.mov (.t 52))⟩]) (.seq (.reg [⟨(some 13), none, .p (.mov (.k (.int .i64 0)))⟩]) (.seq (.seq (.reg [⟨(some
  53), none, .p (.mov (.t 12))⟩, ⟨(some 54), none, .p (.mov (.t 1))⟩, ⟨(some 55), none, .p (.bin .lss (.t 53) (.t 54))⟩, ⟨(some 56), none, .p (.mov (.t 55))⟩, ⟨(some 57), some (56, true),
  .p (.faddr 0 (.t 7))⟩, ⟨(some 58), some (56, true), .r (.load none (.t 57))⟩, ⟨(some 59), some (56, true), .p (.mov (.t 12))⟩, ⟨(some 60), some (56, true), .p (.nilck (.t 58))⟩, ⟨(some
  61), some (56, true), .p (.faddr 0 (.t 60))⟩, ⟨(some 62), some (56, true), .p (.faddr 0 (.t 61))⟩, ⟨(some 63), some (56, true), .p (.iaddrA 128 1 (.t 62) (.t 59))⟩, ⟨(some 64), some
  (56, true), .r (.load none (.t 63))⟩, ⟨(some 65), none, .p (.pick (.t 56) (.t 64) (.k (.bool false)))⟩]) (.seq (.keep [1, 7, 8, 9, 13, 49, 50, 65]) (.cond (.t 65) (.reg [⟨(some 13),
  none, .p (.mov (.k (.int .i64 1)))⟩]) .skip))) (.seq (.keep [1, 7, 8, 9, 13, 49, 50]) (.reg [⟨(some 66), none, .p (.mov (.t 8))⟩, ⟨(some 67), none, .p (.mov (.t 13))⟩, ⟨(some 68), none,
  .p (.build [(.int .i64 0), (.int .i64 0)] [(0, 1, (.t 67)), (1, 1, (.k (.int .i64 1)))])⟩, ⟨(some 69), none, .n (.buildSl 62 1 [(.int .i64 0), (.int .i64 0)] [(0, 2, (.t 68))])⟩, ⟨(some
  70), none, .w (.call (.k (.fn 18 [] [])) [(.t 66), (.t 69)])⟩])))))) (.seq (.keep [1, 7, 8, 9, 49, 50]) (.reg [⟨(some 71), none, .p (.bin .add (.t 50) (.k (.int .i64 1)))⟩, ⟨(some 50),
  none, .p (.mov (.t 71))⟩]))))))
def fax_Decode_l1 : MCode := (.seq (.keep [1, 7, 8, 9]) (.block 1 (.seq (.reg [⟨(some 33), none, .r (.load (some 2) (.t 7))⟩, ⟨(some 34), none, .w (.call (.k (.fn 23 [] [])) [(.t 33)])⟩,
  ⟨(some 32), none, .p (.mov (.t 34))⟩, ⟨(some 35), none, .p (.extr 0 (.t 32))⟩, ⟨(some 36), none, .p (.extr 1 (.t 32))⟩, ⟨(some 10), none, .p (.mov (.t 35))⟩, ⟨(some 11), none, .p (.mov
  (.t 36))⟩]) (.seq (.seq (.reg [⟨(some 37), none, .p (.mov (.t 10))⟩]) (.cond (.t 37) (.exit 0) .skip)) (.seq (.seq (.reg [⟨(some 38), none, .p (.mov (.t 11))⟩, ⟨(some 39), none, .p
  (.un .not (.t 38))⟩]) (.cond (.t 39) (.seq (.reg [⟨(some 4), none, .p (.mov (.k (.str [])))⟩, ⟨(some 5), none, .p (.mov (.k (.int .i64 0)))⟩, ⟨(some 6), none, .p (.mov (.k (.int .i64
  5)))⟩]) .ret) .skip)) (.seq (.seq (.reg [⟨(some 40), none, .p (.mov (.t 9))⟩, ⟨(some 41), none, .p (.bin .add (.t 40) (.k (.int .i64 1)))⟩, ⟨(some 9), none, .p (.mov (.t 41))⟩]) (.seq
  (.reg [⟨(some 42), none, .p (.mov (.t 9))⟩, ⟨(some 43), none, .p (.mov (.t 1))⟩, ⟨(some 44), none, .w (.call (.k (.fn 16 [] [])) [(.t 43)])⟩, ⟨(some 45), none, .p (.bin .mul (.t 42)
  (.t 44))⟩, ⟨(some 46), none, .p (.bin .leq (.t 45) (.k (.int .i64 65536)))⟩]) (.cond (.t 46) (.seq (.reg [⟨(some 47), none, .p (.mov (.t 1))⟩, ⟨(some 48), none, .w (.call (.k (.fn 16
  [] [])) [(.t 47)])⟩, ⟨(some 49), none, .p (.bin .mul (.k (.int .i64 8)) (.t 48))⟩, ⟨(some 50), none, .p (.mov (.k (.int .i64 0)))⟩]) (.block 2 (.loop fax_Decode_l0))) .skip))) (.seq
  (.keep [1, 7, 8, 9]) (.regd [.op 0 ⟨(some 72), none, .p (.faddr 0 (.t 7))⟩, .op 1 ⟨(some 73), none, .r (.load none (.t 72))⟩, .op 2 ⟨(some 74), none, .p (.faddr 0 (.t 7))⟩, .op 3 ⟨(some
  75), none, .r (.load none (.t 74))⟩, .op 4 ⟨(some 76), none, .p (.nilck (.t 75))⟩, .op 5 ⟨(some 77), none, .p (.faddr 0 (.t 76))⟩, .op 6 ⟨(some 78), none, .p (.faddr 0 (.t 77))⟩, .op
  7 ⟨(some 79), none, .r (.load (some 128) (.t 78))⟩, .op 8 ⟨(some 80), none, .p (.nilck (.t 73))⟩, .op 9 ⟨(some 81), none, .p (.faddr 0 (.t 80))⟩, .op 10 ⟨(some 82), none, .p (.faddr
  128 (.t 81))⟩, .op 11 ⟨none, none, .w (.store 128 (.t 82) (.t 79))⟩]))))))))
def fax_Decode_l2 : MCode := (.seq (.keep [1, 7, 8, 9]) (.seq (.seq (.reg [⟨(some 83), none, .p (.faddr 1 (.t 7))⟩, ⟨(some 84), none, .r (.load none (.t 83))⟩, ⟨(some 85), none, .p
  (.nilck (.t 84))⟩, ⟨(some 86), none, .p (.faddr 1 (.t 85))⟩, ⟨(some 87), none, .r (.load none (.t 86))⟩, ⟨(some 88), none, .p (.bin .rem (.t 87) (.k (.int .i64 8)))⟩, ⟨(some 89), none,
  .p (.bin .neq (.t 88) (.k (.int .i64 0)))⟩]) (.cond (.t 89) .skip (.exit 4))) (.block 5 (.seq (.reg [⟨(some 90), none, .p (.faddr 1 (.t 7))⟩, ⟨(some 91), none, .r (.load none (.t 90))⟩,
  ⟨(some 92), none, .w (.call (.k (.fn 24 [] [])) [(.t 91)])⟩, ⟨(some 93), none, .p (.bin .eql (.t 92) (.k (.int .i64 1)))⟩]) (.cond (.t 93) (.seq (.reg [⟨(some 4), none, .p (.mov (.k
  (.str [])))⟩, ⟨(some 5), none, .p (.mov (.k (.int .i64 0)))⟩, ⟨(some 6), none, .p (.mov (.k (.int .i64 5)))⟩]) .ret) .skip)))))
def fax_Decode : MFun := ⟨2, [.t 4, .t 5, .t 6], (.seq (.reg [⟨(some 4), none, .p (.mov (.k (.str [])))⟩, ⟨(some 5), none, .p (.mov (.k (.int .i64 0)))⟩, ⟨(some 6), none, .p (.mov (.k
  (.int .i64 0)))⟩]) (.seq (.seq (.reg [⟨(some 14), none, .p (.mov (.t 0))⟩, ⟨(some 15), none, .p (.lenOf true (.t 14))⟩, ⟨(some 16), none, .p (.bin .gtr (.t 15) (.k (.int .i64 65536)))⟩])
  (.cond (.t 16) (.seq (.reg [⟨(some 4), none, .p (.mov (.k (.str [])))⟩, ⟨(some 5), none, .p (.mov (.k (.int .i64 0)))⟩, ⟨(some 6), none, .p (.mov (.k (.int .i64 3)))⟩]) .ret) .skip))
  (.seq (.seq (.reg [⟨(some 17), none, .p (.mov (.t 1))⟩, ⟨(some 18), none, .p (.bin .lss (.t 17) (.k (.int .i64 1)))⟩, ⟨(some 19), none, .p (.mov (.t 18))⟩, ⟨(some 20), some (19, false),
  .p (.mov (.t 1))⟩, ⟨(some 21), some (19, false), .p (.bin .gtr (.t 20) (.k (.int .i64 128)))⟩, ⟨(some 22), none, .p (.pick (.t 19) (.k (.bool true)) (.t 21))⟩]) (.cond (.t 22) (.seq
  (.reg [⟨(some 4), none, .p (.mov (.k (.str [])))⟩, ⟨(some 5), none, .p (.mov (.k (.int .i64 0)))⟩, ⟨(some 6), none, .p (.mov (.k (.int .i64 2)))⟩]) .ret) .skip)) (.seq (.keep [0, 1])
  (.seq (.reg [⟨(some 23), none, .p (.mov (.t 1))⟩, ⟨(some 24), none, .p (.build [(.bool false), (.bool false), (.bool false), (.bool false), (.bool false), (.bool false), (.bool false),
  (.bool false), (.bool false), (.bool false), (.bool false), (.bool false), (.bool false), (.bool false), (.bool false), (.bool false), (.bool false), (.bool false), (.bool false), (.bool
  false), (.bool false), (.bool false), (.bool false), (.bool false), (.bool false), (.bool false), (.bool false), (.bool false), (.bool false), (.bool false), (.bool false), (.bool false),
  (.bool false), (.bool false), (.bool false), (.bool false), (.bool false), (.bool false), (.bool false), (.bool false), (.bool false), (.bool false), (.bool false), (.bool false), (.bool
  false), (.bool false), (.bool false), (.bool false), (.bool false), (.bool false), (.bool false), (.bool false), (.bool false), (.bool false), (.bool false), (.bool false), (.bool false),
  (.bool false), (.bool false), (.bool false), (.bool false), (.bool false), (.bool false), (.bool false), (.bool false), (.bool false), (.bool false), (.bool false), (.bool false), (.bool
  false), (.bool false), (.bool false), (.bool false), (.bool false), (.bool false), (.bool false), (.bool false), (.bool false), (.bool false), (.bool false), (.bool false), (.bool false),
  (.bool false), (.bool false), (.bool false), (.bool false), (.bool false), (.bool false), (.bool false), (.bool false), (.bool false), (.bool false), (.bool false), (.bool false), (.bool
  false), (.bool false), (.bool false), (.bool false), (.bool false), (.bool false), (.bool false), (.bool false), (.bool false), (.bool false), (.bool false), (.bool false), (.bool false),
  (.bool false), (.bool false), (.bool false), (.bool false), (.bool false), (.bool false), (.bool false), (.bool false), (.bool false), (.bool false), (.bool false), (.bool false), (.bool
  false), (.bool false), (.bool false), (.bool false), (.bool false), (.bool false), (.bool false), (.bool false), (.bool false), (.bool false), (.bool false), (.bool false), (.bool false),
  (.bool false), (.bool false), (.bool false), (.bool false), (.bool false), (.bool false), (.bool false), (.bool false), (.bool false), (.bool false), (.bool false), (.bool false), (.bool
  false), (.bool false), (.bool false), (.bool false), (.bool false), (.bool false), (.bool false), (.bool false), (.bool false), (.bool false), (.bool false), (.bool false), (.bool false),
  (.bool false), (.bool false), (.bool false), (.bool false), (.bool false), (.bool false), (.bool false), (.bool false), (.bool false), (.bool false), (.bool false), (.bool false), (.bool
  false), (.bool false), (.bool false), (.bool false), (.bool false), (.bool false), (.bool false), (.bool false), (.bool false), (.bool false), (.bool false), (.bool false), (.bool false),
  (.bool false), (.bool false), (.bool false), (.bool false), (.bool false), (.bool false), (.bool false), (.bool false), (.bool false), (.bool false), (.bool false), (.bool false), (.bool
  false), (.bool false), (.bool false), (.bool false), (.bool false), (.bool false), (.bool false), (.bool false), (.bool false), (.bool false), (.bool false), (.bool false), (.bool false),
  (.bool false), (.bool false), (.bool false), (.bool false), (.bool false), (.bool false), (.bool false), (.bool false), (.bool false), (.bool false), (.bool false), (.bool false), (.bool
  false), (.bool false), (.bool false), (.bool false), (.bool false), (.bool false), (.bool false), (.bool false), (.bool false), (.bool false), (.bool false), (.bool false), (.bool false),
  (.bool false), (.bool false), (.bool false), (.bool false), (.bool false), (.bool false), (.bool false), (.bool false), (.bool false), (.bool false), (.bool false), (.bool false), (.bool
  false), (.bool false), (.bool false), (.bool false), (.bool false), (.bool false), (.bool false), (.bool false), (.bool false), (.bool false), (.bool false), (.bool false), (.int .i64
  0), (.int .i64 0), (.bool false)] [(256, 1, (.t 23))])⟩, ⟨(some 25), none, .n (.box 58 false (.t 24))⟩, ⟨(some 26), none, .p (.mov (.t 0))⟩, ⟨(some 27), none, .p (.build [(.str []),
  (.int .i64 0), (.bool false)] [(0, 1, (.t 26))])⟩, ⟨(some 28), none, .n (.box 71 false (.t 27))⟩, ⟨(some 29), none, .p (.build [.nilptr, .nilptr] [(0, 1, (.t 25)), (1, 1, (.t 28))])⟩,
  ⟨(some 7), none, .n (.alloc 73 true [.nilptr, .nilptr])⟩, ⟨none, none, .w (.store 2 (.t 7) (.t 29))⟩]) (.seq (.keep [1, 7]) (.seq (.reg [⟨(some 30), none, .p (.build [.nilslice, (.int
  .i64 0)] [])⟩, ⟨(some 31), none, .n (.box 51 false (.t 30))⟩, ⟨(some 8), none, .p (.mov (.t 31))⟩, ⟨(some 9), none, .p (.mov (.k (.int .i64 0)))⟩]) (.seq (.block 0 (.loop fax_Decode_l1))
  (.seq (.keep [1, 7, 8, 9]) (.seq (.block 4 (.loop fax_Decode_l2)) (.seq (.keep [1, 7, 8, 9]) (.seq (.seq (.reg [⟨(some 94), none, .p (.mov (.t 9))⟩, ⟨(some 95), none, .p (.mov (.t 1))⟩,
  ⟨(some 96), none, .w (.call (.k (.fn 16 [] [])) [(.t 95)])⟩, ⟨(some 97), none, .p (.bin .mul (.t 94) (.t 96))⟩, ⟨(some 98), none, .p (.bin .gtr (.t 97) (.k (.int .i64 65536)))⟩]) (.cond
  (.t 98) (.seq (.reg [⟨(some 4), none, .p (.mov (.k (.str [])))⟩, ⟨(some 5), none, .p (.mov (.k (.int .i64 0)))⟩, ⟨(some 6), none, .p (.mov (.k (.int .i64 3)))⟩]) .ret) .skip)) (.seq
  (.keep [7, 8]) (.seq (.regd [.op 0 ⟨(some 99), none, .p (.mov (.t 8))⟩, .op 1 ⟨(some 100), none, .p (.nilck (.t 99))⟩, .op 2 ⟨(some 101), none, .p (.faddr 0 (.t 100))⟩, .op 3 ⟨(some
  102), none, .r (.load none (.t 101))⟩, .op 4 ⟨(some 103), none, .r (.b2s (.t 102))⟩, .op 5 ⟨(some 104), none, .p (.faddr 1 (.t 7))⟩, .op 6 ⟨(some 105), none, .r (.load none (.t 104))⟩,
  .op 7 ⟨(some 106), none, .p (.nilck (.t 105))⟩, .op 8 ⟨(some 107), none, .p (.faddr 1 (.t 106))⟩, .op 9 ⟨(some 108), none, .r (.load none (.t 107))⟩, .op 10 ⟨(some 109), none, .p (.bin
  .quo (.t 108) (.k (.int .i64 8)))⟩, .op 11 ⟨(some 4), none, .p (.mov (.t 103))⟩, .op 12 ⟨(some 5), none, .p (.mov (.t 109))⟩, .op 13 ⟨(some 6), none, .p (.mov (.k (.int .i64 0)))⟩])
  .ret))))))))))))))⟩

def chaseref07_Decode_l0 : MCode := (.seq (.keep [7, 10, 11, 12]) (.seq (.seq (.reg [⟨(some 42), none, .p (.mov (.t 10))⟩, ⟨(some 43), none, .p (.lenOf false (.t 42))⟩, ⟨(some 44),
  none, .p (.bin .rem (.t 43) (.k (.int .i64 8)))⟩, ⟨(some 45), none, .p (.bin .gtr (.t 44) (.k (.int .i64 0)))⟩]) (.cond (.t 45) .skip (.exit 2))) (.block 3 (.reg [⟨(some 46), none,
  .p (.mov (.t 10))⟩, ⟨(some 47), none, .n (.buildSl 3 1 [(.int .i64 0)] [(0, 1, (.k (.int .i64 0)))])⟩, ⟨(some 48), none, .w (.append 3 1 8 [(.int .i64 0)] (.t 46) (.t 47))⟩, ⟨(some
  10), none, .p (.mov (.t 48))⟩]))))
def chaseref07_Decode_l1 : MCode := (.seq (.keep [7, 8, 9, 10]) (.seq (.seq (.reg [⟨(some 26), none, .p (.mov (.t 7))⟩, ⟨(some 27), none, .p (.mov (.t 8))⟩, ⟨(some 28), none, .w (.call
  (.k (.fn 26 [] [])) [(.t 26), (.t 27), (.k (.str [48, 48, 48, 48, 48, 48, 48, 49]))])⟩, ⟨(some 29), none, .p (.un .not (.t 28))⟩]) (.cond (.t 29) .skip (.exit 0))) (.block 1 (.seq (.reg
  [⟨(some 31), none, .p (.mov (.t 7))⟩, ⟨(some 32), none, .p (.mov (.t 8))⟩, ⟨(some 33), none, .p (.mov (.t 9))⟩, ⟨(some 34), none, .w (.call (.k (.fn 27 [] [])) [(.t 31), (.t 32), (.t
  33)])⟩, ⟨(some 30), none, .p (.mov (.t 34))⟩, ⟨(some 35), none, .p (.extr 0 (.t 30))⟩, ⟨(some 36), none, .p (.extr 1 (.t 30))⟩, ⟨(some 11), none, .p (.mov (.t 35))⟩, ⟨(some 12), none,
  .p (.mov (.t 36))⟩]) (.seq (.keep [7, 10, 11, 12]) (.seq (.seq (.reg [⟨(some 37), none, .p (.mov (.t 12))⟩, ⟨(some 38), none, .p (.bin .lss (.t 37) (.k (.int .i64 0)))⟩]) (.cond (.t
  38) (.seq (.reg [⟨(some 4), none, .p (.mov (.k (.str [])))⟩, ⟨(some 5), none, .p (.mov (.k (.int .i64 0)))⟩, ⟨(some 6), none, .p (.mov (.k (.int .i64 5)))⟩]) .ret) .skip)) (.seq (.reg
  [⟨(some 39), none, .p (.mov (.t 10))⟩, ⟨(some 40), none, .p (.mov (.t 11))⟩, ⟨(some 41), none, .w (.append 3 1 8 [(.int .i64 0)] (.t 39) (.t 40))⟩, ⟨(some 10), none, .p (.mov (.t 41))⟩])
  (.seq (.block 2 (.loop chaseref07_Decode_l0)) (.seq (.keep [7, 10, 11, 12]) (.seq (.reg [⟨(some 49), none, .p (.mov (.t 11))⟩, ⟨(some 9), none, .p (.mov (.t 49))⟩]) (.reg [⟨(some 50),
  none, .p (.mov (.t 12))⟩, ⟨(some 8), none, .p (.mov (.t 50))⟩])))))))))))
def chaseref07_Decode_l2 : MCode := (.seq (.keep [7, 8, 10]) (.seq (.seq (.reg [⟨(some 53), none, .p (.mov (.t 8))⟩, ⟨(some 54), none, .p (.bin .rem (.t 53) (.k (.int .i64 8)))⟩, ⟨(some
  55), none, .p (.bin .gtr (.t 54) (.k (.int .i64 0)))⟩]) (.cond (.t 55) .skip (.exit 4))) (.block 5 (.seq (.seq (.reg [⟨(some 56), none, .p (.mov (.t 7))⟩, ⟨(some 57), none, .p (.mov
  (.t 8))⟩, ⟨(some 58), none, .p (.iaddrS 1 (.t 56) (.t 57))⟩, ⟨(some 59), none, .r (.load none (.t 58))⟩, ⟨(some 60), none, .p (.bin .eql (.t 59) (.k (.int .i64 1)))⟩]) (.cond (.t 60)
  (.seq (.reg [⟨(some 4), none, .p (.mov (.k (.str [])))⟩, ⟨(some 5), none, .p (.mov (.k (.int .i64 0)))⟩, ⟨(some 6), none, .p (.mov (.k (.int .i64 5)))⟩]) .ret) .skip)) (.seq (.keep
  [7, 8, 10]) (.reg [⟨(some 61), none, .p (.mov (.t 8))⟩, ⟨(some 62), none, .p (.bin .add (.t 61) (.k (.int .i64 1)))⟩, ⟨(some 8), none, .p (.mov (.t 62))⟩]))))))
def chaseref07_Decode : MFun := ⟨2, [.t 4, .t 5, .t 6], (.seq (.reg [⟨(some 4), none, .p (.mov (.k (.str [])))⟩, ⟨(some 5), none, .p (.mov (.k (.int .i64 0)))⟩, ⟨(some 6), none, .p
  (.mov (.k (.int .i64 0)))⟩]) (.seq (.seq (.reg [⟨(some 13), none, .p (.mov (.t 0))⟩, ⟨(some 14), none, .p (.lenOf true (.t 13))⟩, ⟨(some 15), none, .p (.bin .gtr (.t 14) (.k (.int .i64
  65536)))⟩]) (.cond (.t 15) (.seq (.reg [⟨(some 4), none, .p (.mov (.k (.str [])))⟩, ⟨(some 5), none, .p (.mov (.k (.int .i64 0)))⟩, ⟨(some 6), none, .p (.mov (.k (.int .i64 3)))⟩])
  .ret) .skip)) (.seq (.seq (.reg [⟨(some 16), none, .p (.mov (.t 1))⟩, ⟨(some 17), none, .p (.bin .lss (.t 16) (.k (.int .i64 1)))⟩, ⟨(some 18), none, .p (.mov (.t 17))⟩, ⟨(some 19),
  some (18, false), .p (.mov (.t 1))⟩, ⟨(some 20), some (18, false), .p (.bin .gtr (.t 19) (.k (.int .i64 128)))⟩, ⟨(some 21), none, .p (.pick (.t 18) (.k (.bool true)) (.t 20))⟩]) (.cond
  (.t 21) (.seq (.reg [⟨(some 4), none, .p (.mov (.k (.str [])))⟩, ⟨(some 5), none, .p (.mov (.k (.int .i64 0)))⟩, ⟨(some 6), none, .p (.mov (.k (.int .i64 2)))⟩]) .ret) .skip)) (.seq
  (.keep [0, 1]) (.seq (.reg [⟨(some 22), none, .p (.mov (.t 0))⟩, ⟨(some 23), none, .w (.call (.k (.fn 25 [] [])) [(.t 22)])⟩, ⟨(some 7), none, .p (.mov (.t 23))⟩]) (.seq (.reg [⟨(some
  8), none, .p (.mov (.k (.int .i64 0)))⟩]) (.seq (.reg [⟨(some 24), none, .p (.mov (.t 1))⟩, ⟨(some 25), none, .n (.mkSl 3 1 8 [(.int .i64 0)] (.t 24) (.t 24))⟩, ⟨(some 9), none, .p
  (.mov (.t 25))⟩]) (.seq (.reg [⟨(some 10), none, .p (.mov (.k .nilslice))⟩]) (.seq (.block 0 (.loop chaseref07_Decode_l1)) (.seq (.keep [7, 8, 10]) (.seq (.reg [⟨(some 51), none, .p
  (.mov (.t 8))⟩, ⟨(some 52), none, .p (.bin .add (.t 51) (.k (.int .i64 8)))⟩, ⟨(some 8), none, .p (.mov (.t 52))⟩]) (.seq (.block 4 (.loop chaseref07_Decode_l2)) (.seq (.keep [8, 10])
  (.seq (.seq (.reg [⟨(some 63), none, .p (.mov (.t 10))⟩, ⟨(some 64), none, .p (.lenOf false (.t 63))⟩, ⟨(some 65), none, .p (.bin .gtr (.t 64) (.k (.int .i64 524288)))⟩]) (.cond (.t
  65) (.seq (.reg [⟨(some 4), none, .p (.mov (.k (.str [])))⟩, ⟨(some 5), none, .p (.mov (.k (.int .i64 0)))⟩, ⟨(some 6), none, .p (.mov (.k (.int .i64 3)))⟩]) .ret) .skip)) (.seq (.reg
  [⟨(some 66), none, .p (.mov (.t 10))⟩, ⟨(some 67), none, .w (.call (.k (.fn 15 [] [])) [(.t 66)])⟩, ⟨(some 68), none, .p (.mov (.t 8))⟩, ⟨(some 69), none, .p (.bin .quo (.t 68) (.k
  (.int .i64 8)))⟩, ⟨(some 4), none, .p (.mov (.t 67))⟩, ⟨(some 5), none, .p (.mov (.t 69))⟩, ⟨(some 6), none, .p (.mov (.k (.int .i64 0)))⟩]) .ret)))))))))))))))⟩

def chaselaw07_codes_l0 : MCode := (.seq (.keep [0, 1, 5, 10, 11]) (.seq (.reg [⟨(some 12), none, .p (.bin .lss (.t 11) (.t 10))⟩]) (.seq (.cond (.t 12) .skip (.exit 0)) (.seq (.block
  1 (.seq (.reg [⟨(some 13), none, .p (.mov (.t 11))⟩, ⟨(some 6), none, .p (.mov (.t 13))⟩]) (.reg [⟨(some 14), none, .p (.mov (.t 5))⟩, ⟨(some 15), none, .p (.mov (.t 1))⟩, ⟨(some 16),
  none, .p (.mov (.t 6))⟩, ⟨(some 17), none, .p (.idxS (.t 15) (.t 16))⟩, ⟨(some 18), none, .p (.bin .sub (.t 17) (.k (.int .u8 48)))⟩, ⟨(some 19), none, .p (.conv .i64 (.t 18))⟩, ⟨(some
  20), none, .n (.buildSl 3 1 [(.int .i64 0)] [(0, 1, (.t 19))])⟩, ⟨(some 21), none, .w (.append 3 1 8 [(.int .i64 0)] (.t 14) (.t 20))⟩, ⟨(some 5), none, .p (.mov (.t 21))⟩]))) (.seq
  (.keep [0, 1, 5, 10, 11]) (.reg [⟨(some 22), none, .p (.bin .add (.t 11) (.k (.int .i64 1)))⟩, ⟨(some 11), none, .p (.mov (.t 22))⟩]))))))
def chaselaw07_codes : MFun := ⟨2, [.t 4], (.seq (.reg [⟨(some 4), none, .p (.mov (.k (.bool false)))⟩]) (.seq (.reg [⟨(some 5), none, .p (.mov (.k .nilslice))⟩]) (.seq (.seq (.reg
  [⟨(some 9), none, .p (.mov (.t 1))⟩, ⟨(some 10), none, .p (.lenOf true (.t 9))⟩, ⟨(some 11), none, .p (.mov (.k (.int .i64 0)))⟩]) (.block 0 (.loop chaselaw07_codes_l0))) (.seq (.keep
  [0, 5]) (.seq (.reg [⟨(some 24), none, .p (.mov (.t 0))⟩, ⟨(some 25), none, .w (.call (.k (.fn 9 [] [])) [(.t 24), (.k (.int .i64 8))])⟩, ⟨(some 23), none, .p (.mov (.t 25))⟩, ⟨(some
  26), none, .p (.extr 0 (.t 23))⟩, ⟨(some 27), none, .p (.extr 1 (.t 23))⟩, ⟨(some 7), none, .p (.mov (.t 26))⟩, ⟨(some 8), none, .p (.mov (.t 27))⟩]) (.seq (.reg [⟨(some 28), none,
  .p (.mov (.t 8))⟩, ⟨(some 29), none, .p (.bin .eql (.t 28) (.k (.int .i64 0)))⟩, ⟨(some 30), none, .p (.mov (.t 29))⟩, ⟨(some 31), some (30, true), .p (.mov (.t 7))⟩, ⟨(some 32), some
  (30, true), .p (.mov (.t 5))⟩, ⟨(some 33), some (30, true), .w (.call (.k (.fn 15 [] [])) [(.t 32)])⟩, ⟨(some 34), some (30, true), .p (.bin .eql (.t 31) (.t 33))⟩, ⟨(some 35), none,
  .p (.pick (.t 30) (.t 34) (.k (.bool false)))⟩, ⟨(some 4), none, .p (.mov (.t 35))⟩]) .ret))))))⟩

def chaseref07_Pack_l0 : MCode := (.seq (.keep [0, 3, 4, 5, 6]) (.seq (.seq (.reg [⟨(some 14), none, .p (.mov (.t 6))⟩, ⟨(some 15), none, .p (.mov (.t 4))⟩, ⟨(some 16), none, .p (.bin
  .add (.t 15) (.k (.int .i64 8)))⟩, ⟨(some 17), none, .p (.bin .lss (.t 14) (.t 16))⟩]) (.cond (.t 17) .skip (.exit 2))) (.seq (.block 3 (.seq (.reg [⟨(some 20), none, .p (.mov (.t 5))⟩,
  ⟨(some 21), none, .p (.bin .mul (.t 20) (.k (.int .i64 2)))⟩, ⟨(some 5), none, .p (.mov (.t 21))⟩]) (.seq (.reg [⟨(some 22), none, .p (.mov (.t 6))⟩, ⟨(some 23), none, .p (.mov (.t
  0))⟩, ⟨(some 24), none, .p (.lenOf false (.t 23))⟩, ⟨(some 25), none, .p (.bin .lss (.t 22) (.t 24))⟩]) (.cond (.t 25) (.reg [⟨(some 26), none, .p (.mov (.t 5))⟩, ⟨(some 27), none,
  .p (.mov (.t 0))⟩, ⟨(some 28), none, .p (.mov (.t 6))⟩, ⟨(some 29), none, .p (.iaddrS 1 (.t 27) (.t 28))⟩, ⟨(some 30), none, .r (.load none (.t 29))⟩, ⟨(some 31), none, .p (.bin .add
  (.t 26) (.t 30))⟩, ⟨(some 5), none, .p (.mov (.t 31))⟩]) .skip)))) (.seq (.keep [0, 3, 4, 5, 6]) (.reg [⟨(some 18), none, .p (.mov (.t 6))⟩, ⟨(some 19), none, .p (.bin .add (.t 18)
  (.k (.int .i64 1)))⟩, ⟨(some 6), none, .p (.mov (.t 19))⟩])))))
def chaseref07_Pack_l1 : MCode := (.seq (.keep [0, 3, 4]) (.seq (.seq (.reg [⟨(some 7), none, .p (.mov (.t 4))⟩, ⟨(some 8), none, .p (.mov (.t 0))⟩, ⟨(some 9), none, .p (.lenOf false
  (.t 8))⟩, ⟨(some 10), none, .p (.bin .lss (.t 7) (.t 9))⟩]) (.cond (.t 10) .skip (.exit 0))) (.seq (.block 1 (.seq (.reg [⟨(some 5), none, .p (.mov (.k (.int .i64 0)))⟩]) (.seq (.seq
  (.reg [⟨(some 13), none, .p (.mov (.t 4))⟩, ⟨(some 6), none, .p (.mov (.t 13))⟩]) (.block 2 (.loop chaseref07_Pack_l0))) (.seq (.keep [0, 3, 4, 5]) (.reg [⟨(some 32), none, .p (.mov
  (.t 3))⟩, ⟨(some 33), none, .p (.mov (.t 5))⟩, ⟨(some 34), none, .p (.conv .u8 (.t 33))⟩, ⟨(some 35), none, .n (.buildSl 5 1 [(.int .u8 0)] [(0, 1, (.t 34))])⟩, ⟨(some 36), none, .w
  (.append 5 1 1 [(.int .u8 0)] (.t 32) (.t 35))⟩, ⟨(some 3), none, .p (.mov (.t 36))⟩]))))) (.seq (.keep [0, 3, 4]) (.reg [⟨(some 11), none, .p (.mov (.t 4))⟩, ⟨(some 12), none, .p (.bin
  .add (.t 11) (.k (.int .i64 8)))⟩, ⟨(some 4), none, .p (.mov (.t 12))⟩])))))
def chaseref07_Pack : MFun := ⟨1, [.t 2], (.seq (.reg [⟨(some 2), none, .p (.mov (.k (.str [])))⟩]) (.seq (.reg [⟨(some 3), none, .p (.mov (.k .nilslice))⟩]) (.seq (.seq (.reg [⟨(some
  4), none, .p (.mov (.k (.int .i64 0)))⟩]) (.block 0 (.loop chaseref07_Pack_l1))) (.seq (.keep [3]) (.seq (.reg [⟨(some 37), none, .p (.mov (.t 3))⟩, ⟨(some 38), none, .r (.b2s (.t 37))⟩,
  ⟨(some 2), none, .p (.mov (.t 38))⟩]) .ret)))))⟩

def fax_octets : MFun := ⟨1, [.t 2], (.seq (.reg [⟨(some 2), none, .p (.mov (.k (.int .i64 0)))⟩]) (.seq (.reg [⟨(some 3), none, .p (.mov (.t 0))⟩, ⟨(some 4), none, .p (.bin .add (.t
  3) (.k (.int .i64 7)))⟩, ⟨(some 5), none, .p (.bin .quo (.t 4) (.k (.int .i64 8)))⟩, ⟨(some 2), none, .p (.mov (.t 5))⟩]) .ret))⟩

def fax_unpack_l0 : MCode := (.seq (.keep [0, 1, 4, 10, 11]) (.seq (.reg [⟨(some 12), none, .p (.bin .lss (.t 11) (.t 10))⟩]) (.seq (.cond (.t 12) .skip (.exit 0)) (.seq (.block 1 (.seq
  (.reg [⟨(some 13), none, .p (.mov (.t 11))⟩, ⟨(some 6), none, .p (.mov (.t 13))⟩]) (.seq (.reg [⟨(some 14), none, .p (.mov (.t 0))⟩, ⟨(some 15), none, .p (.mov (.t 6))⟩, ⟨(some 16),
  none, .p (.bin .quo (.t 15) (.k (.int .i64 8)))⟩, ⟨(some 17), none, .p (.idxS (.t 14) (.t 16))⟩, ⟨(some 18), none, .p (.mov (.t 6))⟩, ⟨(some 19), none, .p (.bin .rem (.t 18) (.k (.int
  .i64 8)))⟩, ⟨(some 20), none, .p (.bin .sub (.k (.int .i64 7)) (.t 19))⟩, ⟨(some 21), none, .p (.bin .shr (.t 17) (.t 20))⟩, ⟨(some 22), none, .p (.bin .and (.t 21) (.k (.int .u8 1)))⟩,
  ⟨(some 23), none, .p (.bin .eql (.t 22) (.k (.int .u8 1)))⟩, ⟨(some 7), none, .p (.mov (.t 23))⟩]) (.seq (.keep [0, 1, 4, 6, 7, 10, 11]) (.seq (.seq (.reg [⟨(some 24), none, .p (.mov
  (.t 6))⟩, ⟨(some 25), none, .p (.mov (.t 1))⟩, ⟨(some 26), none, .p (.bin .geq (.t 24) (.t 25))⟩]) (.cond (.t 26) (.seq (.seq (.reg [⟨(some 27), none, .p (.mov (.t 7))⟩]) (.cond (.t
  27) (.seq (.reg [⟨(some 28), none, .r (.load (some 128) (.t 4))⟩, ⟨none, none, .w (.store 128 (.t 4) (.t 28))⟩, ⟨(some 5), none, .p (.mov (.k (.bool false)))⟩]) .ret) .skip)) (.exit
  1)) .skip)) (.reg [⟨(some 29), none, .p (.mov (.t 6))⟩, ⟨(some 30), none, .p (.mov (.t 7))⟩, ⟨(some 31), none, .p (.iaddrA 128 1 (.t 4) (.t 29))⟩, ⟨none, none, .w (.store 1 (.t 31)
  (.t 30))⟩])))))) (.seq (.keep [0, 1, 4, 10, 11]) (.reg [⟨(some 32), none, .p (.bin .add (.t 11) (.k (.int .i64 1)))⟩, ⟨(some 11), none, .p (.mov (.t 32))⟩]))))))
def fax_unpack : MFun := ⟨2, [.cell 4 (some 128), .t 5], (.seq (.reg [⟨(some 4), none, .n (.alloc 54 true (List.replicate 128 (.bool false)))⟩, ⟨(some 5), none, .p (.mov (.k (.bool
  false)))⟩]) (.seq (.seq (.reg [⟨(some 8), none, .p (.mov (.t 0))⟩, ⟨(some 9), none, .p (.lenOf true (.t 8))⟩, ⟨(some 10), none, .p (.bin .mul (.k (.int .i64 8)) (.t 9))⟩, ⟨(some 11),
  none, .p (.mov (.k (.int .i64 0)))⟩]) (.block 0 (.loop fax_unpack_l0))) (.seq (.keep [4]) (.seq (.reg [⟨(some 33), none, .r (.load (some 128) (.t 4))⟩, ⟨none, none, .w (.store 128 (.t
  4) (.t 33))⟩, ⟨(some 5), none, .p (.mov (.k (.bool true)))⟩]) .ret))))⟩

def fax_writer_put_l0 : MCode := (.seq (.keep [0, 5, 6, 7, 8, 9]) (.seq (.seq (.reg [⟨(some 16), none, .p (.mov (.t 6))⟩, ⟨(some 17), none, .p (.bin .geq (.t 16) (.k (.int .i64 0)))⟩])
  (.cond (.t 17) .skip (.exit 2))) (.seq (.block 3 (.seq (.seq (.reg [⟨(some 20), none, .p (.mov (.t 0))⟩, ⟨(some 21), none, .p (.nilck (.t 20))⟩, ⟨(some 22), none, .p (.faddr 1 (.t 21))⟩,
  ⟨(some 23), none, .r (.load none (.t 22))⟩, ⟨(some 24), none, .p (.bin .rem (.t 23) (.k (.int .i64 8)))⟩, ⟨(some 25), none, .p (.bin .eql (.t 24) (.k (.int .i64 0)))⟩]) (.cond (.t 25)
  (.reg [⟨(some 26), none, .p (.mov (.t 0))⟩, ⟨(some 27), none, .p (.mov (.t 0))⟩, ⟨(some 28), none, .p (.nilck (.t 27))⟩, ⟨(some 29), none, .p (.faddr 0 (.t 28))⟩, ⟨(some 30), none,
  .r (.load none (.t 29))⟩, ⟨(some 31), none, .n (.buildSl 5 1 [(.int .u8 0)] [(0, 1, (.k (.int .u8 0)))])⟩, ⟨(some 32), none, .w (.append 5 1 1 [(.int .u8 0)] (.t 30) (.t 31))⟩, ⟨(some
  33), none, .p (.nilck (.t 26))⟩, ⟨(some 34), none, .p (.faddr 0 (.t 33))⟩, ⟨none, none, .w (.store 1 (.t 34) (.t 32))⟩]) .skip)) (.seq (.keep [0, 5, 6, 7, 8, 9]) (.seq (.regd [.op 0
  ⟨(some 35), none, .p (.mov (.t 0))⟩, .op 1 ⟨(some 36), none, .p (.nilck (.t 35))⟩, .op 2 ⟨(some 37), none, .p (.faddr 0 (.t 36))⟩, .op 3 ⟨(some 38), none, .r (.load none (.t 37))⟩,
  .op 4 ⟨(some 39), none, .p (.mov (.t 0))⟩, .op 5 ⟨(some 40), none, .p (.nilck (.t 39))⟩, .op 6 ⟨(some 41), none, .p (.faddr 1 (.t 40))⟩, .op 7 ⟨(some 42), none, .r (.load none (.t 41))⟩,
  .op 8 ⟨(some 43), none, .p (.bin .quo (.t 42) (.k (.int .i64 8)))⟩, .op 9 ⟨(some 44), none, .p (.iaddrS 1 (.t 38) (.t 43))⟩, .op 10 ⟨(some 45), none, .r (.load none (.t 44))⟩, .op 11
  ⟨(some 46), none, .p (.iaddrA 2 1 (.t 5) (.k (.int .i64 0)))⟩, .op 12 ⟨(some 47), none, .r (.load none (.t 46))⟩, .op 17 ⟨(some 52), none, .p (.mov (.t 0))⟩, .op 18 ⟨(some 53), none,
  .p (.nilck (.t 52))⟩, .op 19 ⟨(some 54), none, .p (.faddr 1 (.t 53))⟩, .op 20 ⟨(some 55), none, .r (.load none (.t 54))⟩, .op 13 ⟨(some 48), none, .p (.mov (.t 6))⟩, .op 14 ⟨(some 49),
  none, .p (.bin .shr (.t 47) (.t 48))⟩, .op 15 ⟨(some 50), none, .p (.bin .and (.t 49) (.k (.int .i64 1)))⟩, .op 16 ⟨(some 51), none, .p (.conv .u8 (.t 50))⟩, .op 21 ⟨(some 56), none,
  .p (.bin .rem (.t 55) (.k (.int .i64 8)))⟩, .op 22 ⟨(some 57), none, .p (.bin .sub (.k (.int .i64 7)) (.t 56))⟩, .op 23 ⟨(some 58), none, .p (.bin .shl (.t 51) (.t 57))⟩, .op 24 ⟨(some
  59), none, .p (.bin .or (.t 45) (.t 58))⟩, .op 25 ⟨(some 60), none, .p (.iaddrS 1 (.t 38) (.t 43))⟩, .op 26 ⟨none, none, .w (.store 1 (.t 60) (.t 59))⟩]) (.seq (.keep [0, 5, 6, 7, 8,
  9]) (.reg [⟨(some 61), none, .p (.mov (.t 0))⟩, ⟨(some 62), none, .p (.nilck (.t 61))⟩, ⟨(some 63), none, .p (.faddr 1 (.t 62))⟩, ⟨(some 64), none, .r (.load none (.t 63))⟩, ⟨(some
  65), none, .p (.bin .add (.t 64) (.k (.int .i64 1)))⟩, ⟨(some 66), none, .p (.nilck (.t 61))⟩, ⟨(some 67), none, .p (.faddr 1 (.t 66))⟩, ⟨none, none, .w (.store 1 (.t 67) (.t 65))⟩]))))))
  (.seq (.keep [0, 5, 6, 7, 8, 9]) (.reg [⟨(some 18), none, .p (.mov (.t 6))⟩, ⟨(some 19), none, .p (.bin .sub (.t 18) (.k (.int .i64 1)))⟩, ⟨(some 6), none, .p (.mov (.t 19))⟩])))))
def fax_writer_put_l1 : MCode := (.seq (.keep [0, 7, 8, 9]) (.seq (.reg [⟨(some 10), none, .p (.bin .lss (.t 9) (.t 8))⟩]) (.seq (.cond (.t 10) .skip (.exit 0)) (.seq (.block 1 (.seq
  (.reg [⟨(some 11), none, .p (.iaddrS 2 (.t 7) (.t 9))⟩, ⟨(some 12), none, .r (.load (some 2) (.t 11))⟩, ⟨(some 5), none, .n (.alloc 62 true [(.int .i64 0), (.int .i64 0)])⟩, ⟨none,
  none, .w (.store 2 (.t 5) (.t 12))⟩]) (.seq (.reg [⟨(some 13), none, .p (.iaddrA 2 1 (.t 5) (.k (.int .i64 1)))⟩, ⟨(some 14), none, .r (.load none (.t 13))⟩, ⟨(some 15), none, .p (.bin
  .sub (.t 14) (.k (.int .i64 1)))⟩, ⟨(some 6), none, .p (.mov (.t 15))⟩]) (.block 2 (.loop fax_writer_put_l0))))) (.seq (.keep [0, 7, 8, 9]) (.reg [⟨(some 68), none, .p (.bin .add (.t
  9) (.k (.int .i64 1)))⟩, ⟨(some 9), none, .p (.mov (.t 68))⟩]))))))
def fax_writer_put : MFun := ⟨2, [], (.seq (.reg [⟨(some 7), none, .p (.mov (.t 1))⟩, ⟨(some 8), none, .p (.lenOf false (.t 7))⟩, ⟨(some 9), none, .p (.mov (.k (.int .i64 0)))⟩]) (.block
  0 (.loop fax_writer_put_l1)))⟩

def fax_coder_write_l0 : MCode := (.seq (.keep [0, 1]) (.seq (.seq (.regd [.op 0 ⟨(some 14), none, .p (.mov (.t 0))⟩, .op 1 ⟨(some 15), none, .p (.nilck (.t 14))⟩, .op 2 ⟨(some 16),
  none, .p (.faddr 257 (.t 15))⟩, .op 3 ⟨(some 17), none, .r (.load none (.t 16))⟩, .op 4 ⟨(some 18), none, .p (.mov (.t 0))⟩, .op 5 ⟨(some 19), none, .p (.nilck (.t 18))⟩, .op 6 ⟨(some
  20), none, .p (.faddr 256 (.t 19))⟩, .op 7 ⟨(some 21), none, .r (.load none (.t 20))⟩, .op 8 ⟨(some 22), none, .p (.bin .lss (.t 17) (.t 21))⟩]) (.cond (.t 22) .skip (.exit 0))) (.seq
  (.keep [0, 1]) (.block 1 (.seq (.reg [⟨(some 24), none, .p (.mov (.t 0))⟩, ⟨(some 25), none, .w (.call (.k (.fn 28 [] [])) [(.t 24)])⟩, ⟨(some 23), none, .p (.mov (.t 25))⟩, ⟨(some
  26), none, .p (.extr 0 (.t 23))⟩, ⟨(some 27), none, .p (.extr 1 (.t 23))⟩, ⟨(some 4), none, .p (.mov (.t 26))⟩, ⟨(some 5), none, .p (.mov (.t 27))⟩]) (.seq (.reg [⟨(some 29), none,
  .p (.mov (.t 0))⟩, ⟨(some 30), none, .w (.call (.k (.fn 29 [] [])) [(.t 29)])⟩, ⟨(some 28), none, .p (.mov (.t 30))⟩, ⟨(some 31), none, .p (.extr 0 (.t 28))⟩, ⟨(some 32), none, .p (.extr
  1 (.t 28))⟩, ⟨(some 6), none, .p (.mov (.t 31))⟩, ⟨(some 7), none, .p (.mov (.t 32))⟩]) (.block 2 (.seq (.reg [⟨(some 54), none, .p (.mov (.t 5))⟩, ⟨(some 55), none, .p (.mov (.t 6))⟩,
  ⟨(some 56), none, .p (.bin .lss (.t 54) (.t 55))⟩, ⟨(some 53), none, .p (.mov (.t 56))⟩]) (.cond (.t 53) (.seq (.reg [⟨(some 57), none, .p (.mov (.t 1))⟩, ⟨(some 58), none, .p (.build
  [(.int .i64 0), (.int .i64 0)] [(0, 1, (.k (.int .i64 1))), (1, 1, (.k (.int .i64 4)))])⟩, ⟨(some 59), none, .n (.buildSl 62 1 [(.int .i64 0), (.int .i64 0)] [(0, 2, (.t 58))])⟩, ⟨(some
  60), none, .w (.call (.k (.fn 18 [] [])) [(.t 57), (.t 59)])⟩]) (.reg [⟨(some 61), none, .p (.mov (.t 0))⟩, ⟨(some 62), none, .p (.mov (.t 5))⟩, ⟨(some 63), none, .p (.nilck (.t 61))⟩,
  ⟨(some 64), none, .p (.faddr 257 (.t 63))⟩, ⟨none, none, .w (.store 1 (.t 64) (.t 62))⟩])) (.seq (.reg [⟨(some 66), none, .p (.mov (.t 6))⟩, ⟨(some 67), none, .p (.mov (.t 4))⟩, ⟨(some
  68), none, .p (.bin .sub (.t 66) (.t 67))⟩, ⟨(some 69), none, .p (.bin .geq (.t 68) (.k (.int .i64 (-3))))⟩, ⟨(some 70), none, .p (.mov (.t 69))⟩, ⟨(some 71), some (70, true), .p (.mov
  (.t 6))⟩, ⟨(some 72), some (70, true), .p (.mov (.t 4))⟩, ⟨(some 73), some (70, true), .p (.bin .sub (.t 71) (.t 72))⟩, ⟨(some 74), some (70, true), .p (.bin .leq (.t 73) (.k (.int
  .i64 3)))⟩, ⟨(some 75), none, .p (.pick (.t 70) (.t 74) (.k (.bool false)))⟩, ⟨(some 65), none, .p (.mov (.t 75))⟩]) (.seq (.keep [0, 1, 4, 6, 7, 65]) (.cond (.t 65) (.seq (.reg [⟨(some
  76), none, .p (.mov (.t 1))⟩, ⟨(some 77), none, .p (.mov (.t 6))⟩, ⟨(some 78), none, .p (.mov (.t 4))⟩, ⟨(some 79), none, .p (.bin .sub (.t 77) (.t 78))⟩, ⟨(some 80), none, .w (.call
  (.k (.fn 30 [] [])) [(.t 79)])⟩, ⟨(some 81), none, .n (.buildSl 62 1 [(.int .i64 0), (.int .i64 0)] [(0, 2, (.t 80))])⟩, ⟨(some 82), none, .w (.call (.k (.fn 18 [] [])) [(.t 76), (.t
  81)])⟩]) (.reg [⟨(some 83), none, .p (.mov (.t 0))⟩, ⟨(some 84), none, .p (.mov (.t 0))⟩, ⟨(some 85), none, .p (.mov (.t 6))⟩, ⟨(some 86), none, .p (.mov (.t 0))⟩, ⟨(some 87), none,
  .p (.nilck (.t 86))⟩, ⟨(some 88), none, .p (.faddr 258 (.t 87))⟩, ⟨(some 89), none, .r (.load none (.t 88))⟩, ⟨(some 90), none, .p (.un .not (.t 89))⟩, ⟨(some 91), none, .p (.nilck
  (.t 83))⟩, ⟨(some 92), none, .p (.faddr 257 (.t 91))⟩, ⟨none, none, .w (.store 1 (.t 92) (.t 85))⟩, ⟨(some 93), none, .p (.nilck (.t 84))⟩, ⟨(some 94), none, .p (.faddr 258 (.t 93))⟩,
  ⟨none, none, .w (.store 1 (.t 94) (.t 90))⟩])) (.seq (.reg [⟨(some 33), none, .p (.mov (.t 1))⟩, ⟨(some 34), none, .p (.build [(.int .i64 0), (.int .i64 0)] [(0, 1, (.k (.int .i64 1))),
  (1, 1, (.k (.int .i64 3)))])⟩, ⟨(some 35), none, .p (.mov (.t 6))⟩, ⟨(some 36), none, .p (.mov (.t 0))⟩, ⟨(some 37), none, .p (.nilck (.t 36))⟩, ⟨(some 38), none, .p (.faddr 257 (.t
  37))⟩, ⟨(some 39), none, .r (.load none (.t 38))⟩, ⟨(some 40), none, .p (.minmax true [(.t 39), (.k (.int .i64 0))])⟩, ⟨(some 41), none, .p (.bin .sub (.t 35) (.t 40))⟩, ⟨(some 42),
  none, .w (.call (.k (.fn 31 [] [])) [(.t 41)])⟩, ⟨(some 43), none, .p (.mov (.t 7))⟩, ⟨(some 44), none, .p (.mov (.t 6))⟩, ⟨(some 45), none, .p (.bin .sub (.t 43) (.t 44))⟩, ⟨(some
  46), none, .w (.call (.k (.fn 31 [] [])) [(.t 45)])⟩, ⟨(some 47), none, .n (.buildSl 62 3 [(.int .i64 0), (.int .i64 0), (.int .i64 0), (.int .i64 0), (.int .i64 0), (.int .i64 0)]
  [(0, 2, (.t 34)), (2, 2, (.t 42)), (4, 2, (.t 46))])⟩, ⟨(some 48), none, .w (.call (.k (.fn 18 [] [])) [(.t 33), (.t 47)])⟩]) (.seq (.keep [0, 1, 7]) (.reg [⟨(some 49), none, .p (.mov
  (.t 0))⟩, ⟨(some 50), none, .p (.mov (.t 7))⟩, ⟨(some 51), none, .p (.nilck (.t 49))⟩, ⟨(some 52), none, .p (.faddr 257 (.t 51))⟩, ⟨none, none, .w (.store 1 (.t 52) (.t 50))⟩])))))))))))))))
def fax_coder_write : MFun := ⟨2, [], (.seq (.reg [⟨(some 8), none, .p (.mov (.t 0))⟩, ⟨(some 9), none, .p (.mov (.t 0))⟩, ⟨(some 10), none, .p (.nilck (.t 8))⟩, ⟨(some 11), none, .p
  (.faddr 257 (.t 10))⟩, ⟨none, none, .w (.store 1 (.t 11) (.k (.int .i64 (-1))))⟩, ⟨(some 12), none, .p (.nilck (.t 9))⟩, ⟨(some 13), none, .p (.faddr 258 (.t 12))⟩, ⟨none, none, .w
  (.store 1 (.t 13) (.k (.bool false)))⟩]) (.seq (.keep [0, 1]) (.block 0 (.loop fax_coder_write_l0))))⟩

def chaseref07_Rows_l0 : MCode := (.seq (.keep [0, 1, 6, 7, 8, 9, 10]) (.seq (.seq (.reg [⟨(some 34), none, .p (.mov (.t 10))⟩, ⟨(some 35), none, .p (.mov (.t 9))⟩, ⟨(some 36), none,
  .p (.lenOf false (.t 35))⟩, ⟨(some 37), none, .p (.bin .lss (.t 34) (.t 36))⟩]) (.cond (.t 37) .skip (.exit 2))) (.seq (.block 3 (.seq (.reg [⟨(some 40), none, .p (.mov (.t 9))⟩, ⟨(some
  41), none, .p (.mov (.t 10))⟩, ⟨(some 42), none, .p (.iaddrS 1 (.t 40) (.t 41))⟩, ⟨(some 43), none, .r (.load none (.t 42))⟩, ⟨(some 44), none, .p (.bin .eql (.t 43) (.k (.int .i64
  1)))⟩]) (.cond (.t 44) (.seq (.reg [⟨(some 4), none, .p (.mov (.k .nilslice))⟩, ⟨(some 5), none, .p (.mov (.k (.bool false)))⟩]) .ret) .skip))) (.reg [⟨(some 38), none, .p (.mov (.t
  10))⟩, ⟨(some 39), none, .p (.bin .add (.t 38) (.k (.int .i64 1)))⟩, ⟨(some 10), none, .p (.mov (.t 39))⟩]))))
def chaseref07_Rows_l1 : MCode := (.seq (.keep [0, 1, 6, 7, 8]) (.seq (.seq (.reg [⟨(some 19), none, .p (.mov (.t 8))⟩, ⟨(some 20), none, .p (.mov (.t 0))⟩, ⟨(some 21), none, .p (.lenOf
  true (.t 20))⟩, ⟨(some 22), none, .p (.bin .lss (.t 19) (.t 21))⟩]) (.cond (.t 22) .skip (.exit 0))) (.seq (.block 1 (.seq (.reg [⟨(some 26), none, .p (.mov (.t 0))⟩, ⟨(some 27), none,
  .p (.mov (.t 8))⟩, ⟨(some 28), none, .p (.mov (.t 8))⟩, ⟨(some 29), none, .p (.mov (.t 6))⟩, ⟨(some 30), none, .p (.bin .add (.t 28) (.t 29))⟩, ⟨(some 31), none, .p (.subS (.t 26) (some
  (.t 27)) (some (.t 30)))⟩, ⟨(some 32), none, .w (.call (.k (.fn 25 [] [])) [(.t 31)])⟩, ⟨(some 9), none, .p (.mov (.t 32))⟩]) (.seq (.keep [0, 1, 6, 7, 8, 9]) (.seq (.seq (.reg [⟨(some
  33), none, .p (.mov (.t 1))⟩, ⟨(some 10), none, .p (.mov (.t 33))⟩]) (.block 2 (.loop chaseref07_Rows_l0))) (.seq (.keep [0, 1, 6, 7, 8, 9]) (.reg [⟨(some 45), none, .p (.mov (.t 7))⟩,
  ⟨(some 46), none, .p (.mov (.t 9))⟩, ⟨(some 47), none, .p (.mov (.t 1))⟩, ⟨(some 48), none, .p (.subL 1 (.t 46) none (some (.t 47)) none)⟩, ⟨(some 49), none, .n (.buildSl 45 1 [.nilslice]
  [(0, 1, (.t 48))])⟩, ⟨(some 50), none, .w (.append 45 1 24 [.nilslice] (.t 45) (.t 49))⟩, ⟨(some 7), none, .p (.mov (.t 50))⟩])))))) (.seq (.keep [0, 1, 6, 7, 8]) (.reg [⟨(some 23),
  none, .p (.mov (.t 8))⟩, ⟨(some 24), none, .p (.mov (.t 6))⟩, ⟨(some 25), none, .p (.bin .add (.t 23) (.t 24))⟩, ⟨(some 8), none, .p (.mov (.t 25))⟩])))))
def chaseref07_Rows : MFun := ⟨2, [.t 4, .t 5], (.seq (.reg [⟨(some 4), none, .p (.mov (.k .nilslice))⟩, ⟨(some 5), none, .p (.mov (.k (.bool false)))⟩]) (.seq (.reg [⟨(some 11), none,
  .p (.mov (.t 1))⟩, ⟨(some 12), none, .p (.bin .add (.t 11) (.k (.int .i64 7)))⟩, ⟨(some 13), none, .p (.bin .quo (.t 12) (.k (.int .i64 8)))⟩, ⟨(some 6), none, .p (.mov (.t 13))⟩])
  (.seq (.seq (.reg [⟨(some 14), none, .p (.mov (.t 0))⟩, ⟨(some 15), none, .p (.lenOf true (.t 14))⟩, ⟨(some 16), none, .p (.mov (.t 6))⟩, ⟨(some 17), none, .p (.bin .rem (.t 15) (.t
  16))⟩, ⟨(some 18), none, .p (.bin .neq (.t 17) (.k (.int .i64 0)))⟩]) (.cond (.t 18) (.seq (.reg [⟨(some 4), none, .p (.mov (.k .nilslice))⟩, ⟨(some 5), none, .p (.mov (.k (.bool false)))⟩])
  .ret) .skip)) (.seq (.reg [⟨(some 7), none, .p (.mov (.k .nilslice))⟩]) (.seq (.seq (.reg [⟨(some 8), none, .p (.mov (.k (.int .i64 0)))⟩]) (.block 0 (.loop chaseref07_Rows_l1))) (.seq
  (.keep [7]) (.seq (.reg [⟨(some 51), none, .p (.mov (.t 7))⟩, ⟨(some 4), none, .p (.mov (.t 51))⟩, ⟨(some 5), none, .p (.mov (.k (.bool true)))⟩]) .ret)))))))⟩

def chaseref07_Row_l0 : MCode := (.seq (.keep [0, 1, 5, 6, 7]) (.seq (.seq (.reg [⟨(some 12), none, .p (.mov (.t 6))⟩, ⟨(some 13), none, .p (.mov (.t 0))⟩, ⟨(some 14), none, .p (.lenOf
  false (.t 13))⟩, ⟨(some 15), none, .p (.bin .lss (.t 12) (.t 14))⟩]) (.cond (.t 15) .skip (.exit 0))) (.block 1 (.seq (.reg [⟨(some 16), none, .p (.mov (.t 0))⟩, ⟨(some 17), none, .p
  (.mov (.t 6))⟩, ⟨(some 18), none, .p (.mov (.t 7))⟩, ⟨(some 19), none, .w (.call (.k (.fn 32 [] [])) [(.t 16), (.t 17), (.t 18)])⟩, ⟨(some 8), none, .p (.mov (.t 19))⟩]) (.seq (.reg
  [⟨(some 20), none, .p (.mov (.t 0))⟩, ⟨(some 21), none, .p (.mov (.t 8))⟩, ⟨(some 22), none, .p (.mov (.t 7))⟩, ⟨(some 23), none, .p (.bin .sub (.k (.int .i64 1)) (.t 22))⟩, ⟨(some
  24), none, .w (.call (.k (.fn 32 [] [])) [(.t 20), (.t 21), (.t 23)])⟩, ⟨(some 9), none, .p (.mov (.t 24))⟩]) (.seq (.reg [⟨(some 25), none, .p (.mov (.t 1))⟩, ⟨(some 26), none, .p
  (.mov (.t 6))⟩, ⟨(some 27), none, .p (.mov (.t 7))⟩, ⟨(some 28), none, .w (.call (.k (.fn 33 [] [])) [(.t 25), (.t 26), (.t 27)])⟩, ⟨(some 10), none, .p (.mov (.t 28))⟩]) (.seq (.reg
  [⟨(some 29), none, .p (.mov (.t 1))⟩, ⟨(some 30), none, .p (.mov (.t 10))⟩, ⟨(some 31), none, .p (.mov (.t 7))⟩, ⟨(some 32), none, .p (.bin .sub (.k (.int .i64 1)) (.t 31))⟩, ⟨(some
  33), none, .w (.call (.k (.fn 32 [] [])) [(.t 29), (.t 30), (.t 32)])⟩, ⟨(some 11), none, .p (.mov (.t 33))⟩]) (.seq (.reg [⟨(some 34), none, .p (.mov (.t 11))⟩, ⟨(some 35), none, .p
  (.mov (.t 8))⟩, ⟨(some 36), none, .p (.bin .lss (.t 34) (.t 35))⟩]) (.cond (.t 36) (.seq (.reg [⟨(some 37), none, .p (.mov (.t 5))⟩, ⟨(some 38), none, .w (.call (.k (.fn 22 [] []))
  [(.k (.str [48, 48, 48, 49]))])⟩, ⟨(some 39), none, .w (.append 3 1 8 [(.int .i64 0)] (.t 37) (.t 38))⟩, ⟨(some 5), none, .p (.mov (.t 39))⟩]) (.reg [⟨(some 40), none, .p (.mov (.t
  11))⟩, ⟨(some 6), none, .p (.mov (.t 40))⟩])) (.seq (.reg [⟨(some 41), none, .p (.mov (.t 8))⟩, ⟨(some 42), none, .p (.mov (.t 10))⟩, ⟨(some 43), none, .p (.bin .sub (.t 41) (.t 42))⟩,
  ⟨(some 44), none, .p (.bin .geq (.t 43) (.k (.int .i64 (-3))))⟩, ⟨(some 45), none, .p (.mov (.t 44))⟩, ⟨(some 46), some (45, true), .p (.mov (.t 8))⟩, ⟨(some 47), some (45, true), .p
  (.mov (.t 10))⟩, ⟨(some 48), some (45, true), .p (.bin .sub (.t 46) (.t 47))⟩, ⟨(some 49), some (45, true), .p (.bin .leq (.t 48) (.k (.int .i64 3)))⟩, ⟨(some 50), none, .p (.pick (.t
  45) (.t 49) (.k (.bool false)))⟩]) (.seq (.keep [0, 1, 5, 6, 7, 8, 9, 10, 50]) (.cond (.t 50) (.seq (.reg [⟨(some 51), none, .p (.mov (.t 5))⟩, ⟨(some 52), none, .p (.mov (.t 8))⟩,
  ⟨(some 53), none, .p (.mov (.t 10))⟩, ⟨(some 54), none, .p (.bin .sub (.t 52) (.t 53))⟩, ⟨(some 55), none, .w (.call (.k (.fn 34 [] [])) [(.t 54)])⟩, ⟨(some 56), none, .w (.append 3
  1 8 [(.int .i64 0)] (.t 51) (.t 55))⟩, ⟨(some 5), none, .p (.mov (.t 56))⟩]) (.seq (.reg [⟨(some 57), none, .p (.mov (.t 8))⟩, ⟨(some 6), none, .p (.mov (.t 57))⟩]) (.reg [⟨(some 58),
  none, .p (.mov (.t 7))⟩, ⟨(some 59), none, .p (.bin .sub (.k (.int .i64 1)) (.t 58))⟩, ⟨(some 7), none, .p (.mov (.t 59))⟩]))) (.seq (.reg [⟨(some 60), none, .p (.mov (.t 5))⟩, ⟨(some
  61), none, .w (.call (.k (.fn 22 [] [])) [(.k (.str [48, 48, 49]))])⟩, ⟨(some 62), none, .w (.append 3 1 8 [(.int .i64 0)] (.t 60) (.t 61))⟩, ⟨(some 5), none, .p (.mov (.t 62))⟩]) (.seq
  (.reg [⟨(some 63), none, .p (.mov (.t 5))⟩, ⟨(some 64), none, .p (.mov (.t 8))⟩, ⟨(some 65), none, .p (.mov (.t 6))⟩, ⟨(some 66), none, .p (.minmax true [(.t 65), (.k (.int .i64 0))])⟩,
  ⟨(some 67), none, .p (.bin .sub (.t 64) (.t 66))⟩, ⟨(some 68), none, .w (.call (.k (.fn 35 [] [])) [(.t 67)])⟩, ⟨(some 69), none, .w (.append 3 1 8 [(.int .i64 0)] (.t 63) (.t 68))⟩,
  ⟨(some 5), none, .p (.mov (.t 69))⟩]) (.seq (.keep [0, 1, 5, 7, 8, 9]) (.seq (.reg [⟨(some 70), none, .p (.mov (.t 5))⟩, ⟨(some 71), none, .p (.mov (.t 9))⟩, ⟨(some 72), none, .p (.mov
  (.t 8))⟩, ⟨(some 73), none, .p (.bin .sub (.t 71) (.t 72))⟩, ⟨(some 74), none, .w (.call (.k (.fn 35 [] [])) [(.t 73)])⟩, ⟨(some 75), none, .w (.append 3 1 8 [(.int .i64 0)] (.t 70)
  (.t 74))⟩, ⟨(some 5), none, .p (.mov (.t 75))⟩]) (.reg [⟨(some 76), none, .p (.mov (.t 9))⟩, ⟨(some 6), none, .p (.mov (.t 76))⟩])))))))))))))))))
def chaseref07_Row : MFun := ⟨2, [.t 4], (.seq (.reg [⟨(some 4), none, .p (.mov (.k .nilslice))⟩]) (.seq (.reg [⟨(some 5), none, .p (.mov (.k .nilslice))⟩]) (.seq (.reg [⟨(some 6),
  none, .p (.mov (.k (.int .i64 (-1))))⟩, ⟨(some 7), none, .p (.mov (.k (.int .i64 0)))⟩]) (.seq (.block 0 (.loop chaseref07_Row_l0)) (.seq (.keep [5]) (.seq (.reg [⟨(some 77), none,
  .p (.mov (.t 5))⟩, ⟨(some 4), none, .p (.mov (.t 77))⟩]) .ret))))))⟩

def chaseref07_word_l0 : MCode := (.seq (.keep [0, 3, 4]) (.seq (.seq (.reg [⟨(some 5), none, .p (.mov (.t 4))⟩, ⟨(some 6), none, .p (.mov (.t 0))⟩, ⟨(some 7), none, .p (.lenOf true
  (.t 6))⟩, ⟨(some 8), none, .p (.bin .lss (.t 5) (.t 7))⟩]) (.cond (.t 8) .skip (.exit 0))) (.seq (.block 1 (.reg [⟨(some 11), none, .p (.mov (.t 3))⟩, ⟨(some 12), none, .p (.mov (.t
  0))⟩, ⟨(some 13), none, .p (.mov (.t 4))⟩, ⟨(some 14), none, .p (.idxS (.t 12) (.t 13))⟩, ⟨(some 15), none, .p (.conv .i64 (.t 14))⟩, ⟨(some 16), none, .p (.bin .sub (.t 15) (.k (.int
  .i64 48)))⟩, ⟨(some 17), none, .n (.buildSl 3 1 [(.int .i64 0)] [(0, 1, (.t 16))])⟩, ⟨(some 18), none, .w (.append 3 1 8 [(.int .i64 0)] (.t 11) (.t 17))⟩, ⟨(some 3), none, .p (.mov
  (.t 18))⟩])) (.seq (.keep [0, 3, 4]) (.reg [⟨(some 9), none, .p (.mov (.t 4))⟩, ⟨(some 10), none, .p (.bin .add (.t 9) (.k (.int .i64 1)))⟩, ⟨(some 4), none, .p (.mov (.t 10))⟩])))))
def chaseref07_word : MFun := ⟨1, [.t 2], (.seq (.reg [⟨(some 2), none, .p (.mov (.k .nilslice))⟩]) (.seq (.reg [⟨(some 3), none, .p (.mov (.k .nilslice))⟩]) (.seq (.seq (.reg [⟨(some
  4), none, .p (.mov (.k (.int .i64 0)))⟩]) (.block 0 (.loop chaseref07_word_l0))) (.seq (.keep [3]) (.seq (.reg [⟨(some 19), none, .p (.mov (.t 3))⟩, ⟨(some 2), none, .p (.mov (.t 19))⟩])
  .ret)))))⟩

def fax_filler_next_l0 : MCode := (.seq (.keep [1]) (.seq (.seq (.regd [.op 0 ⟨(some 21), none, .p (.faddr 0 (.t 1))⟩, .op 1 ⟨(some 22), none, .r (.load none (.t 21))⟩, .op 2 ⟨(some
  23), none, .p (.nilck (.t 22))⟩, .op 3 ⟨(some 24), none, .p (.faddr 257 (.t 23))⟩, .op 4 ⟨(some 25), none, .r (.load none (.t 24))⟩, .op 5 ⟨(some 26), none, .p (.faddr 0 (.t 1))⟩, .op
  6 ⟨(some 27), none, .r (.load none (.t 26))⟩, .op 7 ⟨(some 28), none, .p (.nilck (.t 27))⟩, .op 8 ⟨(some 29), none, .p (.faddr 256 (.t 28))⟩, .op 9 ⟨(some 30), none, .r (.load none
  (.t 29))⟩, .op 10 ⟨(some 31), none, .p (.bin .lss (.t 25) (.t 30))⟩]) (.cond (.t 31) .skip (.exit 0))) (.seq (.keep [1]) (.block 1 (.seq (.reg [⟨(some 32), none, .p (.faddr 1 (.t 1))⟩,
  ⟨(some 33), none, .r (.load none (.t 32))⟩, ⟨(some 34), none, .w (.call (.k (.fn 36 [] [])) [(.t 33)])⟩, ⟨(some 4), none, .p (.mov (.t 34))⟩]) (.seq (.seq (.reg [⟨(some 35), none, .p
  (.faddr 1 (.t 1))⟩, ⟨(some 36), none, .r (.load none (.t 35))⟩, ⟨(some 37), none, .p (.nilck (.t 36))⟩, ⟨(some 38), none, .p (.faddr 2 (.t 37))⟩, ⟨(some 39), none, .r (.load none (.t
  38))⟩]) (.cond (.t 39) (.seq (.reg [⟨(some 2), none, .p (.mov (.k (.bool false)))⟩, ⟨(some 3), none, .p (.mov (.k (.bool false)))⟩]) .ret) .skip)) (.seq (.seq (.reg [⟨(some 40), none,
  .p (.mov (.t 4))⟩, ⟨(some 41), none, .p (.bin .eql (.t 40) (.k (.int .i64 7)))⟩, ⟨(some 42), none, .p (.mov (.t 41))⟩, ⟨(some 43), some (42, true), .p (.faddr 0 (.t 1))⟩, ⟨(some 44),
  some (42, true), .r (.load none (.t 43))⟩, ⟨(some 45), some (42, true), .p (.nilck (.t 44))⟩, ⟨(some 46), some (42, true), .p (.faddr 257 (.t 45))⟩, ⟨(some 47), some (42, true), .r
  (.load none (.t 46))⟩, ⟨(some 48), some (42, true), .p (.bin .lss (.t 47) (.k (.int .i64 0)))⟩, ⟨(some 49), none, .p (.pick (.t 42) (.t 48) (.k (.bool false)))⟩]) (.seq (.keep [1, 4,
  49]) (.cond (.t 49) (.seq (.reg [⟨(some 2), none, .p (.mov (.k (.bool true)))⟩, ⟨(some 3), none, .p (.mov (.k (.bool false)))⟩]) .ret) .skip))) (.seq (.keep [1, 4]) (.seq (.reg [⟨(some
  51), none, .w (.call (.k (.fn 37 [] [])) [])⟩, ⟨(some 52), none, .p (.mov (.t 4))⟩, ⟨(some 53), none, .r (.lookup (.i .i64) .nilfn true (.t 51) (.t 52))⟩, ⟨(some 50), none, .p (.mov
  (.t 53))⟩, ⟨(some 54), none, .p (.extr 0 (.t 50))⟩, ⟨(some 55), none, .p (.extr 1 (.t 50))⟩, ⟨(some 5), none, .p (.mov (.t 54))⟩, ⟨(some 6), none, .p (.mov (.t 55))⟩]) (.seq (.keep
  [1, 5, 6]) (.seq (.reg [⟨(some 56), none, .p (.mov (.t 6))⟩, ⟨(some 57), none, .p (.un .not (.t 56))⟩, ⟨(some 58), none, .p (.mov (.t 57))⟩, ⟨(some 59), some (58, false), .p (.mov (.t
  5))⟩, ⟨(some 60), some (58, false), .r (.load (some 2) (.t 1))⟩, ⟨(some 61), some (58, false), .w (.call (.t 59) [(.t 60)])⟩, ⟨(some 62), some (58, false), .p (.un .not (.t 61))⟩, ⟨(some
  63), none, .p (.pick (.t 58) (.k (.bool true)) (.t 62))⟩, ⟨(some 64), none, .p (.mov (.t 63))⟩, ⟨(some 65), some (64, false), .p (.faddr 1 (.t 1))⟩, ⟨(some 66), some (64, false), .r
  (.load none (.t 65))⟩, ⟨(some 67), some (64, false), .p (.nilck (.t 66))⟩, ⟨(some 68), some (64, false), .p (.faddr 2 (.t 67))⟩, ⟨(some 69), some (64, false), .r (.load none (.t 68))⟩,
  ⟨(some 70), none, .p (.pick (.t 64) (.k (.bool true)) (.t 69))⟩]) (.seq (.keep [1, 70]) (.cond (.t 70) (.seq (.reg [⟨(some 2), none, .p (.mov (.k (.bool false)))⟩, ⟨(some 3), none,
  .p (.mov (.k (.bool false)))⟩]) .ret) .skip)))))))))))))
def fax_filler_next : MFun := ⟨1, [.t 2, .t 3], (.seq (.reg [⟨(some 1), none, .n (.box 73 true (.t 0))⟩, ⟨(some 2), none, .p (.mov (.k (.bool false)))⟩, ⟨(some 3), none, .p (.mov (.k
  (.bool false)))⟩]) (.seq (.reg [⟨(some 7), none, .p (.faddr 0 (.t 1))⟩, ⟨(some 8), none, .r (.load none (.t 7))⟩, ⟨(some 9), none, .p (.build (List.replicate 128 (.bool false)) [])⟩,
  ⟨(some 10), none, .p (.nilck (.t 8))⟩, ⟨(some 11), none, .p (.faddr 0 (.t 10))⟩, ⟨(some 12), none, .p (.faddr 0 (.t 11))⟩, ⟨none, none, .w (.store 128 (.t 12) (.t 9))⟩]) (.seq (.seq
  (.regd [.op 0 ⟨(some 13), none, .p (.faddr 0 (.t 1))⟩, .op 1 ⟨(some 14), none, .r (.load none (.t 13))⟩, .op 2 ⟨(some 15), none, .p (.faddr 0 (.t 1))⟩, .op 3 ⟨(some 16), none, .r (.load
  none (.t 15))⟩, .op 4 ⟨(some 17), none, .p (.nilck (.t 14))⟩, .op 5 ⟨(some 18), none, .p (.faddr 257 (.t 17))⟩, .op 6 ⟨none, none, .w (.store 1 (.t 18) (.k (.int .i64 (-1))))⟩, .re
  3, .op 7 ⟨(some 19), none, .p (.nilck (.t 16))⟩, .op 8 ⟨(some 20), none, .p (.faddr 258 (.t 19))⟩, .op 9 ⟨none, none, .w (.store 1 (.t 20) (.k (.bool false)))⟩]) (.seq (.keep [1]) (.block
  0 (.loop fax_filler_next_l0)))) (.seq (.keep []) (.seq (.reg [⟨(some 2), none, .p (.mov (.k (.bool false)))⟩, ⟨(some 3), none, .p (.mov (.k (.bool true)))⟩]) .ret)))))⟩

def fax_reader_bit : MFun := ⟨1, [.t 2], (.seq (.reg [⟨(some 2), none, .p (.mov (.k (.int .i64 0)))⟩]) (.seq (.seq (.regd [.op 0 ⟨(some 3), none, .p (.mov (.t 0))⟩, .op 1 ⟨(some 4),
  none, .p (.nilck (.t 3))⟩, .op 2 ⟨(some 5), none, .p (.faddr 1 (.t 4))⟩, .op 3 ⟨(some 6), none, .r (.load none (.t 5))⟩, .op 4 ⟨(some 7), none, .p (.mov (.t 0))⟩, .op 5 ⟨(some 8), none,
  .p (.nilck (.t 7))⟩, .op 6 ⟨(some 9), none, .p (.faddr 0 (.t 8))⟩, .op 7 ⟨(some 10), none, .r (.load none (.t 9))⟩, .op 8 ⟨(some 11), none, .p (.lenOf true (.t 10))⟩, .op 9 ⟨(some 12),
  none, .p (.bin .mul (.k (.int .i64 8)) (.t 11))⟩, .op 10 ⟨(some 13), none, .p (.bin .geq (.t 6) (.t 12))⟩]) (.seq (.keep [0, 13]) (.cond (.t 13) (.seq (.reg [⟨(some 14), none, .p (.mov
  (.t 0))⟩, ⟨(some 15), none, .p (.nilck (.t 14))⟩, ⟨(some 16), none, .p (.faddr 2 (.t 15))⟩, ⟨none, none, .w (.store 1 (.t 16) (.k (.bool true)))⟩]) (.seq (.reg [⟨(some 2), none, .p
  (.mov (.k (.int .i64 0)))⟩]) .ret)) .skip))) (.seq (.keep [0]) (.seq (.reg [⟨(some 17), none, .p (.mov (.t 0))⟩, ⟨(some 18), none, .p (.nilck (.t 17))⟩, ⟨(some 19), none, .p (.faddr
  1 (.t 18))⟩, ⟨(some 20), none, .r (.load none (.t 19))⟩, ⟨(some 21), none, .p (.bin .add (.t 20) (.k (.int .i64 1)))⟩, ⟨(some 22), none, .p (.nilck (.t 17))⟩, ⟨(some 23), none, .p (.faddr
  1 (.t 22))⟩, ⟨none, none, .w (.store 1 (.t 23) (.t 21))⟩]) (.seq (.keep [0]) (.seq (.regd [.op 0 ⟨(some 24), none, .p (.mov (.t 0))⟩, .op 1 ⟨(some 25), none, .p (.nilck (.t 24))⟩, .op
  2 ⟨(some 26), none, .p (.faddr 0 (.t 25))⟩, .op 3 ⟨(some 27), none, .r (.load none (.t 26))⟩, .op 4 ⟨(some 28), none, .p (.mov (.t 0))⟩, .op 5 ⟨(some 29), none, .p (.nilck (.t 28))⟩,
  .op 6 ⟨(some 30), none, .p (.faddr 1 (.t 29))⟩, .op 7 ⟨(some 31), none, .r (.load none (.t 30))⟩, .op 12 ⟨(some 36), none, .p (.mov (.t 0))⟩, .op 13 ⟨(some 37), none, .p (.nilck (.t
  36))⟩, .op 14 ⟨(some 38), none, .p (.faddr 1 (.t 37))⟩, .op 15 ⟨(some 39), none, .r (.load none (.t 38))⟩, .op 8 ⟨(some 32), none, .p (.bin .sub (.t 31) (.k (.int .i64 1)))⟩, .op 9
  ⟨(some 33), none, .p (.bin .quo (.t 32) (.k (.int .i64 8)))⟩, .op 10 ⟨(some 34), none, .p (.idxS (.t 27) (.t 33))⟩, .op 11 ⟨(some 35), none, .p (.conv .i64 (.t 34))⟩, .op 16 ⟨(some
  40), none, .p (.bin .sub (.t 39) (.k (.int .i64 1)))⟩, .op 17 ⟨(some 41), none, .p (.bin .rem (.t 40) (.k (.int .i64 8)))⟩, .op 18 ⟨(some 42), none, .p (.bin .sub (.k (.int .i64 7))
  (.t 41))⟩, .op 19 ⟨(some 43), none, .p (.bin .shr (.t 35) (.t 42))⟩, .op 20 ⟨(some 44), none, .p (.bin .and (.t 43) (.k (.int .i64 1)))⟩, .op 21 ⟨(some 2), none, .p (.mov (.t 44))⟩])
  .ret))))))⟩

def chaseref07_Bits_l0 : MCode := (.seq (.keep [0, 3, 4, 5]) (.seq (.seq (.reg [⟨(some 12), none, .p (.mov (.t 5))⟩, ⟨(some 13), none, .p (.bin .gtr (.t 12) (.k (.int .i64 0)))⟩]) (.cond
  (.t 13) .skip (.exit 2))) (.seq (.block 3 (.reg [⟨(some 16), none, .p (.mov (.t 3))⟩, ⟨(some 17), none, .p (.mov (.t 0))⟩, ⟨(some 18), none, .p (.mov (.t 4))⟩, ⟨(some 19), none, .p
  (.idxS (.t 17) (.t 18))⟩, ⟨(some 20), none, .p (.conv .i64 (.t 19))⟩, ⟨(some 21), none, .p (.mov (.t 5))⟩, ⟨(some 22), none, .p (.bin .quo (.t 20) (.t 21))⟩, ⟨(some 23), none, .p (.bin
  .rem (.t 22) (.k (.int .i64 2)))⟩, ⟨(some 24), none, .n (.buildSl 3 1 [(.int .i64 0)] [(0, 1, (.t 23))])⟩, ⟨(some 25), none, .w (.append 3 1 8 [(.int .i64 0)] (.t 16) (.t 24))⟩, ⟨(some
  3), none, .p (.mov (.t 25))⟩])) (.seq (.keep [0, 3, 4, 5]) (.reg [⟨(some 14), none, .p (.mov (.t 5))⟩, ⟨(some 15), none, .p (.bin .quo (.t 14) (.k (.int .i64 2)))⟩, ⟨(some 5), none,
  .p (.mov (.t 15))⟩])))))
def chaseref07_Bits_l1 : MCode := (.seq (.keep [0, 3, 4]) (.seq (.seq (.reg [⟨(some 6), none, .p (.mov (.t 4))⟩, ⟨(some 7), none, .p (.mov (.t 0))⟩, ⟨(some 8), none, .p (.lenOf true
  (.t 7))⟩, ⟨(some 9), none, .p (.bin .lss (.t 6) (.t 8))⟩]) (.cond (.t 9) .skip (.exit 0))) (.seq (.block 1 (.seq (.reg [⟨(some 5), none, .p (.mov (.k (.int .i64 128)))⟩]) (.block 2
  (.loop chaseref07_Bits_l0)))) (.seq (.keep [0, 3, 4]) (.reg [⟨(some 10), none, .p (.mov (.t 4))⟩, ⟨(some 11), none, .p (.bin .add (.t 10) (.k (.int .i64 1)))⟩, ⟨(some 4), none, .p (.mov
  (.t 11))⟩])))))
def chaseref07_Bits : MFun := ⟨1, [.t 2], (.seq (.reg [⟨(some 2), none, .p (.mov (.k .nilslice))⟩]) (.seq (.reg [⟨(some 3), none, .p (.mov (.k .nilslice))⟩]) (.seq (.seq (.reg [⟨(some
  4), none, .p (.mov (.k (.int .i64 0)))⟩]) (.block 0 (.loop chaseref07_Bits_l1))) (.seq (.keep [3]) (.seq (.reg [⟨(some 26), none, .p (.mov (.t 3))⟩, ⟨(some 2), none, .p (.mov (.t 26))⟩])
  .ret)))))⟩

def chaseref07_starts_l0 : MCode := (.seq (.keep [0, 1, 2, 7]) (.seq (.seq (.reg [⟨(some 15), none, .p (.mov (.t 7))⟩, ⟨(some 16), none, .p (.mov (.t 2))⟩, ⟨(some 17), none, .p (.lenOf
  true (.t 16))⟩, ⟨(some 18), none, .p (.bin .lss (.t 15) (.t 17))⟩]) (.cond (.t 18) .skip (.exit 0))) (.seq (.block 1 (.seq (.regd [.op 0 ⟨(some 21), none, .p (.mov (.t 0))⟩, .op 1 ⟨(some
  22), none, .p (.mov (.t 1))⟩, .op 2 ⟨(some 23), none, .p (.mov (.t 7))⟩, .op 3 ⟨(some 24), none, .p (.bin .add (.t 22) (.t 23))⟩, .op 4 ⟨(some 25), none, .p (.iaddrS 1 (.t 21) (.t 24))⟩,
  .op 5 ⟨(some 26), none, .r (.load none (.t 25))⟩, .op 6 ⟨(some 27), none, .p (.mov (.t 2))⟩, .op 7 ⟨(some 28), none, .p (.mov (.t 7))⟩, .op 8 ⟨(some 29), none, .p (.idxS (.t 27) (.t
  28))⟩, .op 9 ⟨(some 30), none, .p (.conv .i64 (.t 29))⟩, .op 10 ⟨(some 31), none, .p (.bin .sub (.t 30) (.k (.int .i64 48)))⟩, .op 11 ⟨(some 32), none, .p (.bin .neq (.t 26) (.t 31))⟩])
  (.seq (.keep [0, 1, 2, 7, 32]) (.cond (.t 32) (.seq (.reg [⟨(some 6), none, .p (.mov (.k (.bool false)))⟩]) .ret) .skip)))) (.seq (.keep [0, 1, 2, 7]) (.reg [⟨(some 19), none, .p (.mov
  (.t 7))⟩, ⟨(some 20), none, .p (.bin .add (.t 19) (.k (.int .i64 1)))⟩, ⟨(some 7), none, .p (.mov (.t 20))⟩])))))
def chaseref07_starts : MFun := ⟨3, [.t 6], (.seq (.reg [⟨(some 6), none, .p (.mov (.k (.bool false)))⟩]) (.seq (.seq (.reg [⟨(some 8), none, .p (.mov (.t 0))⟩, ⟨(some 9), none, .p
  (.lenOf false (.t 8))⟩, ⟨(some 10), none, .p (.mov (.t 1))⟩, ⟨(some 11), none, .p (.bin .sub (.t 9) (.t 10))⟩, ⟨(some 12), none, .p (.mov (.t 2))⟩, ⟨(some 13), none, .p (.lenOf true
  (.t 12))⟩, ⟨(some 14), none, .p (.bin .lss (.t 11) (.t 13))⟩]) (.cond (.t 14) (.seq (.reg [⟨(some 6), none, .p (.mov (.k (.bool false)))⟩]) .ret) .skip)) (.seq (.keep [0, 1, 2]) (.seq
  (.seq (.reg [⟨(some 7), none, .p (.mov (.k (.int .i64 0)))⟩]) (.block 0 (.loop chaseref07_starts_l0))) (.seq (.keep []) (.seq (.reg [⟨(some 6), none, .p (.mov (.k (.bool true)))⟩])
  .ret))))))⟩

def chaseref07_readRow_l0 : MCode := (.seq (.keep [0, 1, 2, 8, 9, 11, 13, 16, 17, 18]) (.seq (.seq (.reg [⟨(some 72), none, .p (.mov (.t 18))⟩, ⟨(some 73), none, .p (.mov (.t 17))⟩,
  ⟨(some 74), none, .p (.bin .lss (.t 72) (.t 73))⟩]) (.cond (.t 74) .skip (.exit 4))) (.seq (.block 5 (.reg [⟨(some 77), none, .p (.mov (.t 9))⟩, ⟨(some 78), none, .p (.mov (.t 18))⟩,
  ⟨(some 79), none, .p (.mov (.t 11))⟩, ⟨(some 80), none, .p (.iaddrS 1 (.t 77) (.t 78))⟩, ⟨none, none, .w (.store 1 (.t 80) (.t 79))⟩])) (.reg [⟨(some 75), none, .p (.mov (.t 18))⟩,
  ⟨(some 76), none, .p (.bin .add (.t 75) (.k (.int .i64 1)))⟩, ⟨(some 18), none, .p (.mov (.t 76))⟩]))))
def chaseref07_readRow_l1 : MCode := (.seq (.keep [0, 1, 2, 8, 9, 10, 11, 12, 13, 14, 15]) (.seq (.seq (.reg [⟨(some 43), none, .p (.mov (.t 15))⟩, ⟨(some 44), none, .p (.bin .leq (.t
  43) (.k (.int .i64 3)))⟩]) (.cond (.t 44) .skip (.exit 2))) (.seq (.block 3 (.seq (.reg [⟨(some 47), none, .p (.build [(.str []), (.str []), (.str []), (.str []), (.str []), (.str []),
  (.str [])] [(0, 1, (.k (.str [48, 48, 48, 48, 48, 49, 48]))), (1, 1, (.k (.str [48, 48, 48, 48, 49, 48]))), (2, 1, (.k (.str [48, 49, 48]))), (3, 1, (.k (.str [49]))), (4, 1, (.k (.str
  [48, 49, 49]))), (5, 1, (.k (.str [48, 48, 48, 48, 49, 49]))), (6, 1, (.k (.str [48, 48, 48, 48, 48, 49, 49])))])⟩, ⟨(some 48), none, .p (.mov (.t 15))⟩, ⟨(some 49), none, .p (.bin
  .add (.t 48) (.k (.int .i64 3)))⟩, ⟨(some 50), none, .p (.idxA 7 1 none (.t 47) (.t 49))⟩, ⟨(some 16), none, .p (.mov (.t 50))⟩]) (.seq (.reg [⟨(some 51), none, .p (.mov (.t 0))⟩, ⟨(some
  52), none, .p (.mov (.t 1))⟩, ⟨(some 53), none, .p (.mov (.t 16))⟩, ⟨(some 54), none, .w (.call (.k (.fn 26 [] [])) [(.t 51), (.t 52), (.t 53)])⟩]) (.cond (.t 54) (.seq (.reg [⟨(some
  55), none, .p (.mov (.t 12))⟩, ⟨(some 56), none, .p (.mov (.t 15))⟩, ⟨(some 57), none, .p (.bin .add (.t 55) (.t 56))⟩, ⟨(some 17), none, .p (.mov (.t 57))⟩]) (.seq (.seq (.reg [⟨(some
  58), none, .p (.mov (.t 17))⟩, ⟨(some 59), none, .p (.mov (.t 10))⟩, ⟨(some 60), none, .p (.bin .leq (.t 58) (.t 59))⟩, ⟨(some 61), none, .p (.mov (.t 60))⟩, ⟨(some 62), some (61, false),
  .p (.mov (.t 17))⟩, ⟨(some 63), some (61, false), .p (.bin .lss (.t 62) (.k (.int .i64 0)))⟩, ⟨(some 64), none, .p (.pick (.t 61) (.k (.bool true)) (.t 63))⟩, ⟨(some 65), none, .p (.mov
  (.t 64))⟩, ⟨(some 66), some (65, false), .p (.mov (.t 17))⟩, ⟨(some 67), some (65, false), .p (.mov (.t 8))⟩, ⟨(some 68), some (65, false), .p (.bin .gtr (.t 66) (.t 67))⟩, ⟨(some 69),
  none, .p (.pick (.t 65) (.k (.bool true)) (.t 68))⟩]) (.seq (.keep [0, 1, 2, 8, 9, 10, 11, 13, 16, 17, 69]) (.cond (.t 69) (.seq (.reg [⟨(some 6), none, .p (.mov (.k .nilslice))⟩, ⟨(some
  7), none, .p (.mov (.k (.int .i64 (-1))))⟩]) .ret) .skip))) (.seq (.keep [0, 1, 2, 8, 9, 10, 11, 13, 16, 17]) (.seq (.seq (.reg [⟨(some 70), none, .p (.mov (.t 10))⟩, ⟨(some 71), none,
  .p (.minmax true [(.t 70), (.k (.int .i64 0))])⟩, ⟨(some 18), none, .p (.mov (.t 71))⟩]) (.block 4 (.loop chaseref07_readRow_l0))) (.seq (.keep [0, 1, 2, 8, 9, 11, 13, 16, 17]) (.seq
  (.reg [⟨(some 81), none, .p (.mov (.t 17))⟩, ⟨(some 10), none, .p (.mov (.t 81))⟩]) (.seq (.reg [⟨(some 82), none, .p (.mov (.t 11))⟩, ⟨(some 83), none, .p (.bin .sub (.k (.int .i64
  1)) (.t 82))⟩, ⟨(some 11), none, .p (.mov (.t 83))⟩]) (.seq (.reg [⟨(some 84), none, .p (.mov (.t 1))⟩, ⟨(some 85), none, .p (.mov (.t 16))⟩, ⟨(some 86), none, .p (.lenOf true (.t 85))⟩,
  ⟨(some 87), none, .p (.bin .add (.t 84) (.t 86))⟩, ⟨(some 14), none, .p (.mov (.t 87))⟩]) (.exit 2))))))))) .skip)))) (.seq (.keep [0, 1, 2, 8, 9, 10, 11, 12, 13, 14, 15]) (.reg [⟨(some
  45), none, .p (.mov (.t 15))⟩, ⟨(some 46), none, .p (.bin .add (.t 45) (.k (.int .i64 1)))⟩, ⟨(some 15), none, .p (.mov (.t 46))⟩])))))
def chaseref07_readRow_l2 : MCode := (.seq (.keep [0, 1, 2, 8, 9, 11, 13, 19]) (.seq (.seq (.reg [⟨(some 101), none, .p (.mov (.t 19))⟩, ⟨(some 102), none, .p (.mov (.t 13))⟩, ⟨(some
  103), none, .p (.bin .lss (.t 101) (.t 102))⟩]) (.cond (.t 103) .skip (.exit 6))) (.seq (.block 7 (.reg [⟨(some 106), none, .p (.mov (.t 9))⟩, ⟨(some 107), none, .p (.mov (.t 19))⟩,
  ⟨(some 108), none, .p (.mov (.t 11))⟩, ⟨(some 109), none, .p (.iaddrS 1 (.t 106) (.t 107))⟩, ⟨none, none, .w (.store 1 (.t 109) (.t 108))⟩])) (.reg [⟨(some 104), none, .p (.mov (.t
  19))⟩, ⟨(some 105), none, .p (.bin .add (.t 104) (.k (.int .i64 1)))⟩, ⟨(some 19), none, .p (.mov (.t 105))⟩]))))
def chaseref07_readRow_l3 : MCode := (.seq (.keep [0, 2, 8, 9, 11, 23, 24, 25, 26]) (.seq (.seq (.reg [⟨(some 158), none, .p (.mov (.t 26))⟩, ⟨(some 159), none, .p (.mov (.t 25))⟩,
  ⟨(some 160), none, .p (.bin .lss (.t 158) (.t 159))⟩]) (.cond (.t 160) .skip (.exit 8))) (.seq (.block 9 (.seq (.reg [⟨(some 163), none, .p (.mov (.t 9))⟩, ⟨(some 164), none, .p (.mov
  (.t 26))⟩, ⟨(some 165), none, .p (.mov (.t 11))⟩, ⟨(some 166), none, .p (.iaddrS 1 (.t 163) (.t 164))⟩, ⟨none, none, .w (.store 1 (.t 166) (.t 165))⟩]) (.seq (.reg [⟨(some 167), none,
  .p (.mov (.t 26))⟩, ⟨(some 168), none, .p (.mov (.t 24))⟩, ⟨(some 169), none, .p (.bin .geq (.t 167) (.t 168))⟩]) (.cond (.t 169) (.reg [⟨(some 170), none, .p (.mov (.t 9))⟩, ⟨(some
  171), none, .p (.mov (.t 26))⟩, ⟨(some 172), none, .p (.mov (.t 11))⟩, ⟨(some 173), none, .p (.bin .sub (.k (.int .i64 1)) (.t 172))⟩, ⟨(some 174), none, .p (.iaddrS 1 (.t 170) (.t
  171))⟩, ⟨none, none, .w (.store 1 (.t 174) (.t 173))⟩]) .skip)))) (.seq (.keep [0, 2, 8, 9, 11, 23, 24, 25, 26]) (.reg [⟨(some 161), none, .p (.mov (.t 26))⟩, ⟨(some 162), none, .p
  (.bin .add (.t 161) (.k (.int .i64 1)))⟩, ⟨(some 26), none, .p (.mov (.t 162))⟩])))))
def chaseref07_readRow_l4 : MCode := (.seq (.keep [0, 1, 2, 8, 9, 10, 11]) (.seq (.seq (.reg [⟨(some 31), none, .p (.mov (.t 10))⟩, ⟨(some 32), none, .p (.mov (.t 8))⟩, ⟨(some 33),
  none, .p (.bin .lss (.t 31) (.t 32))⟩]) (.cond (.t 33) .skip (.exit 0))) (.block 1 (.seq (.reg [⟨(some 34), none, .p (.mov (.t 2))⟩, ⟨(some 35), none, .p (.mov (.t 10))⟩, ⟨(some 36),
  none, .p (.mov (.t 11))⟩, ⟨(some 37), none, .w (.call (.k (.fn 33 [] [])) [(.t 34), (.t 35), (.t 36)])⟩, ⟨(some 12), none, .p (.mov (.t 37))⟩]) (.seq (.reg [⟨(some 38), none, .p (.mov
  (.t 2))⟩, ⟨(some 39), none, .p (.mov (.t 12))⟩, ⟨(some 40), none, .p (.mov (.t 11))⟩, ⟨(some 41), none, .p (.bin .sub (.k (.int .i64 1)) (.t 40))⟩, ⟨(some 42), none, .w (.call (.k (.fn
  32 [] [])) [(.t 38), (.t 39), (.t 41)])⟩, ⟨(some 13), none, .p (.mov (.t 42))⟩]) (.seq (.reg [⟨(some 14), none, .p (.mov (.k (.int .i64 (-1))))⟩]) (.seq (.seq (.reg [⟨(some 15), none,
  .p (.mov (.k (.int .i64 (-3))))⟩]) (.block 2 (.loop chaseref07_readRow_l1))) (.seq (.keep [0, 1, 2, 8, 9, 10, 11, 13, 14]) (.seq (.seq (.reg [⟨(some 88), none, .p (.mov (.t 14))⟩, ⟨(some
  89), none, .p (.bin .geq (.t 88) (.k (.int .i64 0)))⟩]) (.cond (.t 89) (.seq (.reg [⟨(some 90), none, .p (.mov (.t 14))⟩, ⟨(some 1), none, .p (.mov (.t 90))⟩]) (.exit 1)) .skip)) (.seq
  (.seq (.reg [⟨(some 91), none, .p (.mov (.t 0))⟩, ⟨(some 92), none, .p (.mov (.t 1))⟩, ⟨(some 93), none, .w (.call (.k (.fn 26 [] [])) [(.t 91), (.t 92), (.k (.str [48, 48, 48, 49]))])⟩,
  ⟨(some 94), none, .p (.mov (.t 93))⟩, ⟨(some 95), some (94, true), .p (.mov (.t 13))⟩, ⟨(some 96), some (94, true), .p (.mov (.t 8))⟩, ⟨(some 97), some (94, true), .p (.bin .lss (.t
  95) (.t 96))⟩, ⟨(some 98), none, .p (.pick (.t 94) (.t 97) (.k (.bool false)))⟩]) (.seq (.keep [0, 1, 2, 8, 9, 10, 11, 13, 98]) (.cond (.t 98) (.seq (.seq (.reg [⟨(some 99), none, .p
  (.mov (.t 10))⟩, ⟨(some 100), none, .p (.minmax true [(.t 99), (.k (.int .i64 0))])⟩, ⟨(some 19), none, .p (.mov (.t 100))⟩]) (.block 6 (.loop chaseref07_readRow_l2))) (.seq (.keep
  [0, 1, 2, 8, 9, 11, 13]) (.seq (.reg [⟨(some 110), none, .p (.mov (.t 13))⟩, ⟨(some 10), none, .p (.mov (.t 110))⟩]) (.seq (.reg [⟨(some 111), none, .p (.mov (.t 1))⟩, ⟨(some 112),
  none, .p (.bin .add (.t 111) (.k (.int .i64 4)))⟩, ⟨(some 1), none, .p (.mov (.t 112))⟩]) (.exit 1))))) .skip))) (.seq (.keep [0, 1, 2, 8, 9, 10, 11]) (.seq (.seq (.reg [⟨(some 113),
  none, .p (.mov (.t 0))⟩, ⟨(some 114), none, .p (.mov (.t 1))⟩, ⟨(some 115), none, .w (.call (.k (.fn 26 [] [])) [(.t 113), (.t 114), (.k (.str [48, 48, 49]))])⟩, ⟨(some 116), none,
  .p (.un .not (.t 115))⟩]) (.cond (.t 116) (.seq (.reg [⟨(some 6), none, .p (.mov (.k .nilslice))⟩, ⟨(some 7), none, .p (.mov (.k (.int .i64 (-1))))⟩]) .ret) .skip)) (.seq (.reg [⟨(some
  118), none, .p (.mov (.t 0))⟩, ⟨(some 119), none, .p (.mov (.t 1))⟩, ⟨(some 120), none, .p (.bin .add (.t 119) (.k (.int .i64 3)))⟩, ⟨(some 121), none, .w (.call (.k (.fn 38 [] []))
  [(.t 118), (.t 120)])⟩, ⟨(some 117), none, .p (.mov (.t 121))⟩, ⟨(some 122), none, .p (.extr 0 (.t 117))⟩, ⟨(some 123), none, .p (.extr 1 (.t 117))⟩, ⟨(some 20), none, .p (.mov (.t
  122))⟩, ⟨(some 21), none, .p (.mov (.t 123))⟩]) (.seq (.keep [0, 2, 8, 9, 10, 11, 20, 21]) (.seq (.seq (.reg [⟨(some 124), none, .p (.mov (.t 20))⟩, ⟨(some 125), none, .p (.bin .lss
  (.t 124) (.k (.int .i64 0)))⟩]) (.cond (.t 125) (.seq (.reg [⟨(some 6), none, .p (.mov (.k .nilslice))⟩, ⟨(some 7), none, .p (.mov (.k (.int .i64 (-1))))⟩]) .ret) .skip)) (.seq (.reg
  [⟨(some 127), none, .p (.mov (.t 0))⟩, ⟨(some 128), none, .p (.mov (.t 21))⟩, ⟨(some 129), none, .w (.call (.k (.fn 38 [] [])) [(.t 127), (.t 128)])⟩, ⟨(some 126), none, .p (.mov (.t
  129))⟩, ⟨(some 130), none, .p (.extr 0 (.t 126))⟩, ⟨(some 131), none, .p (.extr 1 (.t 126))⟩, ⟨(some 22), none, .p (.mov (.t 130))⟩, ⟨(some 23), none, .p (.mov (.t 131))⟩]) (.seq (.keep
  [0, 2, 8, 9, 10, 11, 20, 22, 23]) (.seq (.reg [⟨(some 132), none, .p (.mov (.t 10))⟩, ⟨(some 133), none, .p (.minmax true [(.t 132), (.k (.int .i64 0))])⟩, ⟨(some 134), none, .p (.mov
  (.t 20))⟩, ⟨(some 135), none, .p (.bin .add (.t 133) (.t 134))⟩, ⟨(some 24), none, .p (.mov (.t 135))⟩]) (.seq (.reg [⟨(some 136), none, .p (.mov (.t 24))⟩, ⟨(some 137), none, .p (.mov
  (.t 22))⟩, ⟨(some 138), none, .p (.bin .add (.t 136) (.t 137))⟩, ⟨(some 25), none, .p (.mov (.t 138))⟩]) (.seq (.seq (.reg [⟨(some 139), none, .p (.mov (.t 22))⟩, ⟨(some 140), none,
  .p (.bin .lss (.t 139) (.k (.int .i64 0)))⟩, ⟨(some 141), none, .p (.mov (.t 140))⟩, ⟨(some 142), some (141, false), .p (.mov (.t 24))⟩, ⟨(some 143), some (141, false), .p (.mov (.t
  10))⟩, ⟨(some 144), some (141, false), .p (.bin .leq (.t 142) (.t 143))⟩, ⟨(some 145), none, .p (.pick (.t 141) (.k (.bool true)) (.t 144))⟩, ⟨(some 146), none, .p (.mov (.t 145))⟩,
  ⟨(some 147), some (146, false), .p (.mov (.t 25))⟩, ⟨(some 148), some (146, false), .p (.mov (.t 10))⟩, ⟨(some 149), some (146, false), .p (.bin .leq (.t 147) (.t 148))⟩, ⟨(some 150),
  none, .p (.pick (.t 146) (.k (.bool true)) (.t 149))⟩, ⟨(some 151), none, .p (.mov (.t 150))⟩, ⟨(some 152), some (151, false), .p (.mov (.t 25))⟩, ⟨(some 153), some (151, false), .p
  (.mov (.t 8))⟩, ⟨(some 154), some (151, false), .p (.bin .gtr (.t 152) (.t 153))⟩, ⟨(some 155), none, .p (.pick (.t 151) (.k (.bool true)) (.t 154))⟩]) (.seq (.keep [0, 2, 8, 9, 10,
  11, 23, 24, 25, 155]) (.cond (.t 155) (.seq (.reg [⟨(some 6), none, .p (.mov (.k .nilslice))⟩, ⟨(some 7), none, .p (.mov (.k (.int .i64 (-1))))⟩]) .ret) .skip))) (.seq (.keep [0, 2,
  8, 9, 10, 11, 23, 24, 25]) (.seq (.seq (.reg [⟨(some 156), none, .p (.mov (.t 10))⟩, ⟨(some 157), none, .p (.minmax true [(.t 156), (.k (.int .i64 0))])⟩, ⟨(some 26), none, .p (.mov
  (.t 157))⟩]) (.block 8 (.loop chaseref07_readRow_l3))) (.seq (.keep [0, 2, 8, 9, 11, 23, 25]) (.seq (.reg [⟨(some 175), none, .p (.mov (.t 25))⟩, ⟨(some 10), none, .p (.mov (.t 175))⟩])
  (.reg [⟨(some 176), none, .p (.mov (.t 23))⟩, ⟨(some 1), none, .p (.mov (.t 176))⟩])))))))))))))))))))))))))
def chaseref07_readRow : MFun := ⟨3, [.t 6, .t 7], (.seq (.reg [⟨(some 6), none, .p (.mov (.k .nilslice))⟩, ⟨(some 7), none, .p (.mov (.k (.int .i64 0)))⟩]) (.seq (.reg [⟨(some 27),
  none, .p (.mov (.t 2))⟩, ⟨(some 28), none, .p (.lenOf false (.t 27))⟩, ⟨(some 8), none, .p (.mov (.t 28))⟩]) (.seq (.reg [⟨(some 29), none, .p (.mov (.t 8))⟩, ⟨(some 30), none, .n (.mkSl
  3 1 8 [(.int .i64 0)] (.t 29) (.t 29))⟩, ⟨(some 9), none, .p (.mov (.t 30))⟩]) (.seq (.reg [⟨(some 10), none, .p (.mov (.k (.int .i64 (-1))))⟩, ⟨(some 11), none, .p (.mov (.k (.int
  .i64 0)))⟩]) (.seq (.block 0 (.loop chaseref07_readRow_l4)) (.seq (.keep [1, 9]) (.seq (.reg [⟨(some 177), none, .p (.mov (.t 9))⟩, ⟨(some 178), none, .p (.mov (.t 1))⟩, ⟨(some 6),
  none, .p (.mov (.t 177))⟩, ⟨(some 7), none, .p (.mov (.t 178))⟩]) .ret)))))))⟩

def fax_coder_ahead : MFun := ⟨1, [.t 2, .t 3], (.seq (.reg [⟨(some 1), none, .n (.box 52 true (.t 0))⟩, ⟨(some 2), none, .p (.mov (.k (.int .i64 0)))⟩, ⟨(some 3), none, .p (.mov (.k
  (.int .i64 0)))⟩]) (.seq (.regd [.op 0 ⟨(some 4), none, .r (.load none (.t 1))⟩, .op 1 ⟨(some 5), none, .p (.nilck (.t 4))⟩, .op 2 ⟨(some 6), none, .p (.faddr 257 (.t 5))⟩, .op 3 ⟨(some
  7), none, .r (.load none (.t 6))⟩, .op 6 ⟨(some 10), none, .r (.load none (.t 1))⟩, .op 7 ⟨(some 11), none, .p (.nilck (.t 10))⟩, .op 8 ⟨(some 12), none, .p (.faddr 256 (.t 11))⟩, .op
  9 ⟨(some 13), none, .r (.load none (.t 12))⟩, .op 4 ⟨(some 8), none, .p (.bin .add (.t 7) (.k (.int .i64 1)))⟩, .op 5 ⟨(some 9), none, .p (.minmax true [(.t 8), (.k (.int .i64 0))])⟩,
  .op 10 ⟨(some 14), none, .p (.mkfn 39 [] [(.t 1)])⟩, .op 11 ⟨(some 15), none, .w (.call (.k (.fn 40 [] [])) [(.t 9), (.t 13), (.t 14)])⟩, .op 12 ⟨(some 2), none, .p (.mov (.t 15))⟩])
  (.seq (.keep [1, 2]) (.seq (.reg [⟨(some 16), none, .p (.mov (.t 2))⟩, ⟨(some 17), none, .p (.mov (.t 2))⟩, ⟨(some 18), none, .p (.bin .add (.t 17) (.k (.int .i64 1)))⟩, ⟨(some 19),
  none, .r (.load none (.t 1))⟩, ⟨(some 20), none, .p (.nilck (.t 19))⟩, ⟨(some 21), none, .p (.faddr 256 (.t 20))⟩, ⟨(some 22), none, .r (.load none (.t 21))⟩, ⟨(some 23), none, .p (.mkfn
  41 [] [(.t 1)])⟩, ⟨(some 24), none, .w (.call (.k (.fn 40 [] [])) [(.t 18), (.t 22), (.t 23)])⟩, ⟨(some 2), none, .p (.mov (.t 16))⟩, ⟨(some 3), none, .p (.mov (.t 24))⟩]) .ret))))⟩

def fax_coder_own : MFun := ⟨1, [.t 2, .t 3], (.seq (.reg [⟨(some 1), none, .n (.box 52 true (.t 0))⟩, ⟨(some 2), none, .p (.mov (.k (.int .i64 0)))⟩, ⟨(some 3), none, .p (.mov (.k
  (.int .i64 0)))⟩]) (.seq (.regd [.op 0 ⟨(some 4), none, .r (.load none (.t 1))⟩, .op 1 ⟨(some 5), none, .p (.nilck (.t 4))⟩, .op 2 ⟨(some 6), none, .p (.faddr 257 (.t 5))⟩, .op 3 ⟨(some
  7), none, .r (.load none (.t 6))⟩, .op 6 ⟨(some 10), none, .r (.load none (.t 1))⟩, .op 7 ⟨(some 11), none, .p (.nilck (.t 10))⟩, .op 8 ⟨(some 12), none, .p (.faddr 256 (.t 11))⟩, .op
  9 ⟨(some 13), none, .r (.load none (.t 12))⟩, .op 4 ⟨(some 8), none, .p (.bin .add (.t 7) (.k (.int .i64 1)))⟩, .op 5 ⟨(some 9), none, .p (.minmax true [(.t 8), (.k (.int .i64 0))])⟩,
  .op 10 ⟨(some 14), none, .p (.mkfn 42 [] [(.t 1)])⟩, .op 11 ⟨(some 15), none, .w (.call (.k (.fn 40 [] [])) [(.t 9), (.t 13), (.t 14)])⟩, .op 12 ⟨(some 2), none, .p (.mov (.t 15))⟩])
  (.seq (.keep [1, 2]) (.seq (.reg [⟨(some 16), none, .p (.mov (.t 2))⟩, ⟨(some 17), none, .p (.mov (.t 2))⟩, ⟨(some 18), none, .p (.bin .add (.t 17) (.k (.int .i64 1)))⟩, ⟨(some 19),
  none, .r (.load none (.t 1))⟩, ⟨(some 20), none, .p (.nilck (.t 19))⟩, ⟨(some 21), none, .p (.faddr 256 (.t 20))⟩, ⟨(some 22), none, .r (.load none (.t 21))⟩, ⟨(some 23), none, .p (.mkfn
  43 [] [(.t 1)])⟩, ⟨(some 24), none, .w (.call (.k (.fn 40 [] [])) [(.t 18), (.t 22), (.t 23)])⟩, ⟨(some 2), none, .p (.mov (.t 16))⟩, ⟨(some 3), none, .p (.mov (.t 24))⟩]) .ret))))⟩

def fax_vertical : MFun := ⟨1, [.cell 2 (some 2)], (.seq (.reg [⟨(some 2), none, .n (.alloc 62 true [(.int .i64 0), (.int .i64 0)])⟩]) (.seq (.reg [⟨(some 3), none, .p (.build [(.int
  .i64 0), (.int .i64 0)] [(0, 1, (.k (.int .i64 2))), (1, 1, (.k (.int .i64 7)))])⟩, ⟨(some 4), none, .p (.build [(.int .i64 0), (.int .i64 0)] [(0, 1, (.k (.int .i64 2))), (1, 1, (.k
  (.int .i64 6)))])⟩, ⟨(some 5), none, .p (.build [(.int .i64 0), (.int .i64 0)] [(0, 1, (.k (.int .i64 2))), (1, 1, (.k (.int .i64 3)))])⟩, ⟨(some 6), none, .p (.build [(.int .i64 0),
  (.int .i64 0)] [(0, 1, (.k (.int .i64 1))), (1, 1, (.k (.int .i64 1)))])⟩, ⟨(some 7), none, .p (.build [(.int .i64 0), (.int .i64 0)] [(0, 1, (.k (.int .i64 3))), (1, 1, (.k (.int .i64
  3)))])⟩, ⟨(some 8), none, .p (.build [(.int .i64 0), (.int .i64 0)] [(0, 1, (.k (.int .i64 3))), (1, 1, (.k (.int .i64 6)))])⟩, ⟨(some 9), none, .p (.build [(.int .i64 0), (.int .i64
  0)] [(0, 1, (.k (.int .i64 3))), (1, 1, (.k (.int .i64 7)))])⟩, ⟨(some 10), none, .p (.build (List.replicate 14 (.int .i64 0)) [(0, 2, (.t 3)), (2, 2, (.t 4)), (4, 2, (.t 5)), (6, 2,
  (.t 6)), (8, 2, (.t 7)), (10, 2, (.t 8)), (12, 2, (.t 9))])⟩, ⟨(some 11), none, .p (.mov (.t 0))⟩, ⟨(some 12), none, .p (.bin .add (.t 11) (.k (.int .i64 3)))⟩, ⟨(some 13), none, .p
  (.idxA 7 2 (some 2) (.t 10) (.t 12))⟩, ⟨none, none, .w (.store 2 (.t 2) (.t 13))⟩]) .ret))⟩

def fax_run : MFun := ⟨1, [.cell 2 (some 2)], (.seq (.reg [⟨(some 2), none, .n (.alloc 62 true [(.int .i64 0), (.int .i64 0)])⟩]) (.seq (.reg [⟨(some 4), none, .p (.mov (.t 0))⟩, ⟨(some
  5), none, .p (.bin .add (.t 4) (.k (.int .i64 1)))⟩, ⟨(some 6), none, .p (.conv .u64 (.t 5))⟩, ⟨(some 7), none, .w (.call (.k (.fn 44 [] [])) [(.t 6)])⟩, ⟨(some 8), none, .p (.bin .sub
  (.t 7) (.k (.int .i64 1)))⟩, ⟨(some 3), none, .p (.mov (.t 8))⟩]) (.seq (.reg [⟨(some 9), none, .p (.mov (.t 0))⟩, ⟨(some 10), none, .p (.bin .add (.t 9) (.k (.int .i64 1)))⟩, ⟨(some
  11), none, .p (.mov (.t 3))⟩, ⟨(some 12), none, .p (.bin .mul (.k (.int .i64 2)) (.t 11))⟩, ⟨(some 13), none, .p (.bin .add (.t 12) (.k (.int .i64 1)))⟩, ⟨(some 14), none, .p (.build
  [(.int .i64 0), (.int .i64 0)] [(0, 1, (.t 10)), (1, 1, (.t 13))])⟩, ⟨none, none, .w (.store 2 (.t 2) (.t 14))⟩]) .ret)))⟩

def chaseref07_Change_l0 : MCode := (.seq (.keep [0, 2, 7]) (.seq (.seq (.reg [⟨(some 14), none, .p (.mov (.t 7))⟩, ⟨(some 15), none, .p (.mov (.t 0))⟩, ⟨(some 16), none, .p (.lenOf
  false (.t 15))⟩, ⟨(some 17), none, .p (.bin .lss (.t 14) (.t 16))⟩, ⟨(some 18), none, .p (.mov (.t 17))⟩, ⟨(some 19), some (18, true), .p (.mov (.t 0))⟩, ⟨(some 20), some (18, true),
  .p (.mov (.t 7))⟩, ⟨(some 21), some (18, true), .p (.iaddrS 1 (.t 19) (.t 20))⟩, ⟨(some 22), some (18, true), .r (.load none (.t 21))⟩, ⟨(some 23), some (18, true), .p (.mov (.t 2))⟩,
  ⟨(some 24), some (18, true), .p (.bin .eql (.t 22) (.t 23))⟩, ⟨(some 25), none, .p (.pick (.t 18) (.t 24) (.k (.bool false)))⟩]) (.cond (.t 25) .skip (.exit 0))) (.seq (.keep [0, 2,
  7]) (.block 1 (.reg [⟨(some 26), none, .p (.mov (.t 7))⟩, ⟨(some 27), none, .p (.bin .add (.t 26) (.k (.int .i64 1)))⟩, ⟨(some 7), none, .p (.mov (.t 27))⟩])))))
def chaseref07_Change : MFun := ⟨3, [.t 6], (.seq (.reg [⟨(some 6), none, .p (.mov (.k (.int .i64 0)))⟩]) (.seq (.reg [⟨(some 8), none, .p (.mov (.t 1))⟩, ⟨(some 9), none, .p (.bin
  .add (.t 8) (.k (.int .i64 1)))⟩, ⟨(some 10), none, .p (.minmax true [(.t 9), (.k (.int .i64 0))])⟩, ⟨(some 11), none, .p (.mov (.t 0))⟩, ⟨(some 12), none, .p (.lenOf false (.t 11))⟩,
  ⟨(some 13), none, .p (.minmax false [(.t 10), (.t 12)])⟩, ⟨(some 7), none, .p (.mov (.t 13))⟩]) (.seq (.block 0 (.loop chaseref07_Change_l0)) (.seq (.keep [7]) (.seq (.reg [⟨(some 28),
  none, .p (.mov (.t 7))⟩, ⟨(some 6), none, .p (.mov (.t 28))⟩]) .ret)))))⟩

def chaseref07_Edge_l0 : MCode := (.seq (.keep [0, 2, 7]) (.seq (.seq (.reg [⟨(some 11), none, .p (.mov (.t 7))⟩, ⟨(some 12), none, .p (.mov (.t 0))⟩, ⟨(some 13), none, .p (.lenOf false
  (.t 12))⟩, ⟨(some 14), none, .p (.bin .lss (.t 11) (.t 13))⟩, ⟨(some 15), none, .p (.mov (.t 14))⟩, ⟨(some 16), some (15, true), .p (.mov (.t 0))⟩, ⟨(some 17), some (15, true), .p (.mov
  (.t 7))⟩, ⟨(some 18), some (15, true), .p (.iaddrS 1 (.t 16) (.t 17))⟩, ⟨(some 19), some (15, true), .r (.load none (.t 18))⟩, ⟨(some 20), some (15, true), .p (.mov (.t 2))⟩, ⟨(some
  21), some (15, true), .p (.bin .eql (.t 19) (.t 20))⟩, ⟨(some 22), some (15, true), .p (.mov (.t 21))⟩, ⟨(some 23), some (22, false), .p (.mov (.t 0))⟩, ⟨(some 24), some (22, false),
  .p (.mov (.t 7))⟩, ⟨(some 25), some (22, false), .p (.bin .sub (.t 24) (.k (.int .i64 1)))⟩, ⟨(some 26), some (22, false), .w (.call (.k (.fn 45 [] [])) [(.t 23), (.t 25)])⟩, ⟨(some
  27), some (22, false), .p (.mov (.t 2))⟩, ⟨(some 28), some (22, false), .p (.bin .neq (.t 26) (.t 27))⟩, ⟨(some 29), some (15, true), .p (.pick (.t 22) (.k (.bool true)) (.t 28))⟩,
  ⟨(some 30), none, .p (.pick (.t 15) (.t 29) (.k (.bool false)))⟩]) (.cond (.t 30) .skip (.exit 0))) (.seq (.keep [0, 2, 7]) (.block 1 (.reg [⟨(some 31), none, .p (.mov (.t 7))⟩, ⟨(some
  32), none, .p (.bin .add (.t 31) (.k (.int .i64 1)))⟩, ⟨(some 7), none, .p (.mov (.t 32))⟩])))))
def chaseref07_Edge : MFun := ⟨3, [.t 6], (.seq (.reg [⟨(some 6), none, .p (.mov (.k (.int .i64 0)))⟩]) (.seq (.reg [⟨(some 8), none, .p (.mov (.t 1))⟩, ⟨(some 9), none, .p (.bin .add
  (.t 8) (.k (.int .i64 1)))⟩, ⟨(some 10), none, .p (.minmax true [(.t 9), (.k (.int .i64 0))])⟩, ⟨(some 7), none, .p (.mov (.t 10))⟩]) (.seq (.block 0 (.loop chaseref07_Edge_l0)) (.seq
  (.keep [7]) (.seq (.reg [⟨(some 33), none, .p (.mov (.t 7))⟩, ⟨(some 6), none, .p (.mov (.t 33))⟩]) .ret)))))⟩

def chaseref07_Vertical : MFun := ⟨1, [.t 2], (.seq (.reg [⟨(some 2), none, .p (.mov (.k .nilslice))⟩]) (.seq (.reg [⟨(some 3), none, .p (.build [(.str []), (.str []), (.str []), (.str
  []), (.str []), (.str []), (.str [])] [(0, 1, (.k (.str [48, 48, 48, 48, 48, 49, 48]))), (1, 1, (.k (.str [48, 48, 48, 48, 49, 48]))), (2, 1, (.k (.str [48, 49, 48]))), (3, 1, (.k (.str
  [49]))), (4, 1, (.k (.str [48, 49, 49]))), (5, 1, (.k (.str [48, 48, 48, 48, 49, 49]))), (6, 1, (.k (.str [48, 48, 48, 48, 48, 49, 49])))])⟩, ⟨(some 4), none, .p (.mov (.t 0))⟩, ⟨(some
  5), none, .p (.bin .add (.t 4) (.k (.int .i64 3)))⟩, ⟨(some 6), none, .p (.idxA 7 1 none (.t 3) (.t 5))⟩, ⟨(some 7), none, .w (.call (.k (.fn 22 [] [])) [(.t 6)])⟩, ⟨(some 2), none,
  .p (.mov (.t 7))⟩]) .ret))⟩

def chaseref07_Run_l0 : MCode := (.seq (.keep [0, 3, 4]) (.seq (.seq (.reg [⟨(some 7), none, .p (.mov (.t 4))⟩, ⟨(some 8), none, .p (.bin .mul (.t 7) (.k (.int .i64 2)))⟩, ⟨(some 9),
  none, .p (.mov (.t 0))⟩, ⟨(some 10), none, .p (.bin .add (.t 9) (.k (.int .i64 1)))⟩, ⟨(some 11), none, .p (.bin .leq (.t 8) (.t 10))⟩]) (.cond (.t 11) .skip (.exit 0))) (.block 1 (.seq
  (.reg [⟨(some 12), none, .p (.mov (.t 4))⟩, ⟨(some 13), none, .p (.bin .mul (.t 12) (.k (.int .i64 2)))⟩, ⟨(some 4), none, .p (.mov (.t 13))⟩]) (.reg [⟨(some 14), none, .p (.mov (.t
  3))⟩, ⟨(some 15), none, .p (.bin .add (.t 14) (.k (.int .i64 1)))⟩, ⟨(some 3), none, .p (.mov (.t 15))⟩])))))
def chaseref07_Run_l1 : MCode := (.seq (.keep [4, 5, 6]) (.seq (.seq (.reg [⟨(some 20), none, .p (.mov (.t 4))⟩, ⟨(some 21), none, .p (.bin .gtr (.t 20) (.k (.int .i64 0)))⟩]) (.cond
  (.t 21) .skip (.exit 2))) (.block 3 (.seq (.reg [⟨(some 22), none, .p (.mov (.t 5))⟩, ⟨(some 23), none, .p (.mov (.t 6))⟩, ⟨(some 24), none, .p (.mov (.t 4))⟩, ⟨(some 25), none, .p
  (.bin .quo (.t 23) (.t 24))⟩, ⟨(some 26), none, .p (.bin .rem (.t 25) (.k (.int .i64 2)))⟩, ⟨(some 27), none, .n (.buildSl 3 1 [(.int .i64 0)] [(0, 1, (.t 26))])⟩, ⟨(some 28), none,
  .w (.append 3 1 8 [(.int .i64 0)] (.t 22) (.t 27))⟩, ⟨(some 5), none, .p (.mov (.t 28))⟩]) (.seq (.keep [4, 5, 6]) (.reg [⟨(some 29), none, .p (.mov (.t 4))⟩, ⟨(some 30), none, .p (.bin
  .quo (.t 29) (.k (.int .i64 2)))⟩, ⟨(some 4), none, .p (.mov (.t 30))⟩]))))))
def chaseref07_Run : MFun := ⟨1, [.t 2], (.seq (.reg [⟨(some 2), none, .p (.mov (.k .nilslice))⟩]) (.seq (.reg [⟨(some 3), none, .p (.mov (.k (.int .i64 0)))⟩, ⟨(some 4), none, .p (.mov
  (.k (.int .i64 1)))⟩]) (.seq (.block 0 (.loop chaseref07_Run_l0)) (.seq (.keep [0, 3, 4]) (.seq (.reg [⟨(some 16), none, .p (.mov (.t 3))⟩, ⟨(some 17), none, .n (.mkSl 3 1 8 [(.int
  .i64 0)] (.t 16) (.t 16))⟩, ⟨(some 5), none, .p (.mov (.t 17))⟩]) (.seq (.reg [⟨(some 18), none, .p (.mov (.t 0))⟩, ⟨(some 19), none, .p (.bin .add (.t 18) (.k (.int .i64 1)))⟩, ⟨(some
  6), none, .p (.mov (.t 19))⟩]) (.seq (.block 2 (.loop chaseref07_Run_l1)) (.seq (.keep [5]) (.seq (.reg [⟨(some 31), none, .p (.mov (.t 5))⟩, ⟨(some 2), none, .p (.mov (.t 31))⟩]) .ret)))))))))⟩

def fax_reader_zeros_l0 : MCode := (.seq (.keep [0, 3]) (.seq (.seq (.reg [⟨(some 4), none, .p (.mov (.t 3))⟩, ⟨(some 5), none, .p (.bin .lss (.t 4) (.k (.int .i64 8)))⟩, ⟨(some 6),
  none, .p (.mov (.t 5))⟩, ⟨(some 7), some (6, true), .p (.mov (.t 0))⟩, ⟨(some 8), some (6, true), .w (.call (.k (.fn 24 [] [])) [(.t 7)])⟩, ⟨(some 9), some (6, true), .p (.bin .eql
  (.t 8) (.k (.int .i64 0)))⟩, ⟨(some 10), none, .p (.pick (.t 6) (.t 9) (.k (.bool false)))⟩, ⟨(some 11), none, .p (.mov (.t 10))⟩, ⟨(some 12), some (11, true), .p (.mov (.t 0))⟩, ⟨(some
  13), some (11, true), .p (.nilck (.t 12))⟩, ⟨(some 14), some (11, true), .p (.faddr 2 (.t 13))⟩, ⟨(some 15), some (11, true), .r (.load none (.t 14))⟩, ⟨(some 16), some (11, true),
  .p (.un .not (.t 15))⟩, ⟨(some 17), none, .p (.pick (.t 11) (.t 16) (.k (.bool false)))⟩]) (.cond (.t 17) .skip (.exit 0))) (.seq (.keep [0, 3]) (.block 1 (.reg [⟨(some 18), none, .p
  (.mov (.t 3))⟩, ⟨(some 19), none, .p (.bin .add (.t 18) (.k (.int .i64 1)))⟩, ⟨(some 3), none, .p (.mov (.t 19))⟩])))))
def fax_reader_zeros : MFun := ⟨1, [.t 2], (.seq (.reg [⟨(some 2), none, .p (.mov (.k (.int .i64 0)))⟩]) (.seq (.reg [⟨(some 3), none, .p (.mov (.k (.int .i64 0)))⟩]) (.seq (.block
  0 (.loop fax_reader_zeros_l0)) (.seq (.keep [3]) (.seq (.reg [⟨(some 20), none, .p (.mov (.t 3))⟩, ⟨(some 2), none, .p (.mov (.t 20))⟩]) .ret)))))⟩

def fax_modes : MFun := ⟨0, [.t 0], (.seq (.reg [⟨(some 0), none, .p (.mov (.k .nilmap))⟩]) (.seq (.reg [⟨(some 1), none, .n (.mkMap)⟩, ⟨none, none, .w (.mput (.i .i64) (.t 1) (.k (.int
  .i64 0)) (.k (.fn 46 [] [])))⟩, ⟨none, none, .w (.mput (.i .i64) (.t 1) (.k (.int .i64 1)) (.k (.fn 47 [] [])))⟩, ⟨none, none, .w (.mput (.i .i64) (.t 1) (.k (.int .i64 2)) (.k (.fn
  48 [] [])))⟩, ⟨none, none, .w (.mput (.i .i64) (.t 1) (.k (.int .i64 3)) (.k (.fn 49 [] [])))⟩, ⟨none, none, .w (.mput (.i .i64) (.t 1) (.k (.int .i64 4)) (.k (.fn 50 [] [])))⟩, ⟨none,
  none, .w (.mput (.i .i64) (.t 1) (.k (.int .i64 5)) (.k (.fn 51 [] [])))⟩, ⟨(some 2), none, .p (.mov (.t 1))⟩, ⟨(some 0), none, .p (.mov (.t 2))⟩]) .ret))⟩

def chaseref07_readRun_l0 : MCode := (.seq (.keep [0, 1, 6]) (.seq (.seq (.reg [⟨(some 9), none, .p (.mov (.t 1))⟩, ⟨(some 10), none, .p (.mov (.t 6))⟩, ⟨(some 11), none, .p (.bin .add
  (.t 9) (.t 10))⟩, ⟨(some 12), none, .p (.mov (.t 0))⟩, ⟨(some 13), none, .p (.lenOf false (.t 12))⟩, ⟨(some 14), none, .p (.bin .lss (.t 11) (.t 13))⟩, ⟨(some 15), none, .p (.mov (.t
  14))⟩, ⟨(some 16), some (15, true), .p (.mov (.t 0))⟩, ⟨(some 17), some (15, true), .p (.mov (.t 1))⟩, ⟨(some 18), some (15, true), .p (.mov (.t 6))⟩, ⟨(some 19), some (15, true), .p
  (.bin .add (.t 17) (.t 18))⟩, ⟨(some 20), some (15, true), .p (.iaddrS 1 (.t 16) (.t 19))⟩, ⟨(some 21), some (15, true), .r (.load none (.t 20))⟩, ⟨(some 22), some (15, true), .p (.bin
  .eql (.t 21) (.k (.int .i64 0)))⟩, ⟨(some 23), none, .p (.pick (.t 15) (.t 22) (.k (.bool false)))⟩]) (.cond (.t 23) .skip (.exit 0))) (.seq (.keep [0, 1, 6]) (.block 1 (.reg [⟨(some
  24), none, .p (.mov (.t 6))⟩, ⟨(some 25), none, .p (.bin .add (.t 24) (.k (.int .i64 1)))⟩, ⟨(some 6), none, .p (.mov (.t 25))⟩])))))
def chaseref07_readRun_l1 : MCode := (.seq (.keep [0, 1, 6, 7, 8]) (.seq (.seq (.reg [⟨(some 34), none, .p (.mov (.t 8))⟩, ⟨(some 35), none, .p (.mov (.t 6))⟩, ⟨(some 36), none, .p
  (.bin .add (.t 35) (.k (.int .i64 1)))⟩, ⟨(some 37), none, .p (.bin .lss (.t 34) (.t 36))⟩]) (.cond (.t 37) .skip (.exit 2))) (.seq (.block 3 (.reg [⟨(some 40), none, .p (.mov (.t 7))⟩,
  ⟨(some 41), none, .p (.bin .mul (.t 40) (.k (.int .i64 2)))⟩, ⟨(some 42), none, .p (.mov (.t 0))⟩, ⟨(some 43), none, .p (.mov (.t 1))⟩, ⟨(some 44), none, .p (.mov (.t 6))⟩, ⟨(some 45),
  none, .p (.bin .add (.t 43) (.t 44))⟩, ⟨(some 46), none, .p (.mov (.t 8))⟩, ⟨(some 47), none, .p (.bin .add (.t 45) (.t 46))⟩, ⟨(some 48), none, .p (.iaddrS 1 (.t 42) (.t 47))⟩, ⟨(some
  49), none, .r (.load none (.t 48))⟩, ⟨(some 50), none, .p (.bin .add (.t 41) (.t 49))⟩, ⟨(some 51), none, .p (.minmax false [(.t 50), (.k (.int .i64 1048576))])⟩, ⟨(some 7), none, .p
  (.mov (.t 51))⟩])) (.seq (.keep [0, 1, 6, 7, 8]) (.reg [⟨(some 38), none, .p (.mov (.t 8))⟩, ⟨(some 39), none, .p (.bin .add (.t 38) (.k (.int .i64 1)))⟩, ⟨(some 8), none, .p (.mov
  (.t 39))⟩])))))
def chaseref07_readRun : MFun := ⟨2, [.t 4, .t 5], (.seq (.reg [⟨(some 4), none, .p (.mov (.k (.int .i64 0)))⟩, ⟨(some 5), none, .p (.mov (.k (.int .i64 0)))⟩]) (.seq (.reg [⟨(some
  6), none, .p (.mov (.k (.int .i64 0)))⟩]) (.seq (.block 0 (.loop chaseref07_readRun_l0)) (.seq (.keep [0, 1, 6]) (.seq (.seq (.reg [⟨(some 26), none, .p (.mov (.t 1))⟩, ⟨(some 27),
  none, .p (.mov (.t 6))⟩, ⟨(some 28), none, .p (.bin .mul (.k (.int .i64 2)) (.t 27))⟩, ⟨(some 29), none, .p (.bin .add (.t 26) (.t 28))⟩, ⟨(some 30), none, .p (.bin .add (.t 29) (.k
  (.int .i64 1)))⟩, ⟨(some 31), none, .p (.mov (.t 0))⟩, ⟨(some 32), none, .p (.lenOf false (.t 31))⟩, ⟨(some 33), none, .p (.bin .gtr (.t 30) (.t 32))⟩]) (.seq (.keep [0, 1, 6, 33])
  (.cond (.t 33) (.seq (.reg [⟨(some 4), none, .p (.mov (.k (.int .i64 (-1))))⟩, ⟨(some 5), none, .p (.mov (.k (.int .i64 0)))⟩]) .ret) .skip))) (.seq (.keep [0, 1, 6]) (.seq (.reg [⟨(some
  7), none, .p (.mov (.k (.int .i64 0)))⟩]) (.seq (.seq (.reg [⟨(some 8), none, .p (.mov (.k (.int .i64 0)))⟩]) (.block 2 (.loop chaseref07_readRun_l1))) (.seq (.keep [1, 6, 7]) (.seq
  (.reg [⟨(some 52), none, .p (.mov (.t 7))⟩, ⟨(some 53), none, .p (.bin .sub (.t 52) (.k (.int .i64 1)))⟩, ⟨(some 54), none, .p (.mov (.t 1))⟩, ⟨(some 55), none, .p (.mov (.t 6))⟩, ⟨(some
  56), none, .p (.bin .mul (.k (.int .i64 2)) (.t 55))⟩, ⟨(some 57), none, .p (.bin .add (.t 54) (.t 56))⟩, ⟨(some 58), none, .p (.bin .add (.t 57) (.k (.int .i64 1)))⟩, ⟨(some 4), none,
  .p (.mov (.t 53))⟩, ⟨(some 5), none, .p (.mov (.t 58))⟩]) .ret))))))))))⟩

def fax_coder_ahead_1 : MFun := ⟨2, [.t 3], (.seq (.reg [⟨(some 3), none, .p (.mov (.k (.bool false)))⟩]) (.seq (.reg [⟨(some 5), none, .p (.mov (.t 0))⟩, ⟨(some 6), none, .p (.bin
  .gtr (.t 5) (.k (.int .i64 0)))⟩, ⟨(some 7), none, .p (.mov (.t 6))⟩, ⟨(some 8), some (7, true), .r (.load none (.t 1))⟩, ⟨(some 9), some (7, true), .p (.mov (.t 0))⟩, ⟨(some 10), some
  (7, true), .p (.bin .sub (.t 9) (.k (.int .i64 1)))⟩, ⟨(some 11), some (7, true), .p (.nilck (.t 8))⟩, ⟨(some 12), some (7, true), .p (.faddr 0 (.t 11))⟩, ⟨(some 13), some (7, true),
  .p (.faddr 128 (.t 12))⟩, ⟨(some 14), some (7, true), .p (.iaddrA 128 1 (.t 13) (.t 10))⟩, ⟨(some 15), some (7, true), .r (.load none (.t 14))⟩, ⟨(some 16), none, .p (.pick (.t 7) (.t
  15) (.k (.bool false)))⟩, ⟨(some 4), none, .p (.mov (.t 16))⟩]) (.seq (.keep [0, 1, 4]) (.seq (.regd [.op 0 ⟨(some 17), none, .r (.load none (.t 1))⟩, .op 1 ⟨(some 18), none, .p (.mov
  (.t 0))⟩, .op 2 ⟨(some 19), none, .p (.nilck (.t 17))⟩, .op 3 ⟨(some 20), none, .p (.faddr 0 (.t 19))⟩, .op 4 ⟨(some 21), none, .p (.faddr 128 (.t 20))⟩, .op 5 ⟨(some 22), none, .p
  (.iaddrA 128 1 (.t 21) (.t 18))⟩, .op 6 ⟨(some 23), none, .r (.load none (.t 22))⟩, .op 7 ⟨(some 24), none, .r (.load none (.t 1))⟩, .op 8 ⟨(some 25), none, .p (.nilck (.t 24))⟩, .op
  9 ⟨(some 26), none, .p (.faddr 258 (.t 25))⟩, .op 10 ⟨(some 27), none, .r (.load none (.t 26))⟩, .op 11 ⟨(some 28), none, .p (.eqB true (.t 23) (.t 27))⟩, .op 12 ⟨(some 29), none, .p
  (.mov (.t 28))⟩, .op 14 ⟨(some 31), some (29, true), .r (.load none (.t 1))⟩, .op 15 ⟨(some 32), some (29, true), .p (.nilck (.t 31))⟩, .op 16 ⟨(some 33), some (29, true), .p (.faddr
  258 (.t 32))⟩, .op 17 ⟨(some 34), some (29, true), .r (.load none (.t 33))⟩, .op 13 ⟨(some 30), some (29, true), .p (.mov (.t 4))⟩, .op 18 ⟨(some 35), some (29, true), .p (.eqB false
  (.t 30) (.t 34))⟩, .op 19 ⟨(some 36), none, .p (.pick (.t 29) (.t 35) (.k (.bool false)))⟩, .op 20 ⟨(some 3), none, .p (.mov (.t 36))⟩]) .ret))))⟩

def fax_first_int_l0 : MCode := (.seq (.keep [1, 2, 7]) (.seq (.seq (.reg [⟨(some 11), none, .p (.mov (.t 7))⟩, ⟨(some 12), none, .p (.mov (.t 1))⟩, ⟨(some 13), none, .p (.bin .lss
  (.t 11) (.t 12))⟩]) (.cond (.t 13) .skip (.exit 0))) (.seq (.block 1 (.seq (.reg [⟨(some 16), none, .p (.mov (.t 2))⟩, ⟨(some 17), none, .p (.mov (.t 7))⟩, ⟨(some 18), none, .w (.call
  (.t 16) [(.t 17)])⟩]) (.cond (.t 18) (.exit 0) .skip))) (.reg [⟨(some 14), none, .p (.mov (.t 7))⟩, ⟨(some 15), none, .p (.bin .add (.t 14) (.k (.int .i64 1)))⟩, ⟨(some 7), none, .p
  (.mov (.t 15))⟩]))))
def fax_first_int : MFun := ⟨3, [.t 6], (.seq (.reg [⟨(some 6), none, .p (.mov (.k (.int .i64 0)))⟩]) (.scope (.seq (.reg [⟨(some 8), none, .p (.mov (.t 0))⟩, ⟨(some 9), none, .p (.mov
  (.t 1))⟩, ⟨(some 10), none, .p (.minmax false [(.t 8), (.t 9)])⟩, ⟨(some 7), none, .p (.mov (.t 10))⟩]) (.seq .skip (.seq (.block 0 (.loop fax_first_int_l0)) (.seq (.keep [7]) (.seq
  (.reg [⟨(some 19), none, .p (.mov (.t 7))⟩, ⟨(some 6), none, .p (.mov (.t 19))⟩]) .ret)))))))⟩

def fax_coder_ahead_2 : MFun := ⟨2, [.t 3], (.seq (.reg [⟨(some 3), none, .p (.mov (.k (.bool false)))⟩]) (.seq (.regd [.op 0 ⟨(some 4), none, .r (.load none (.t 1))⟩, .op 1 ⟨(some
  5), none, .p (.mov (.t 0))⟩, .op 2 ⟨(some 6), none, .p (.nilck (.t 4))⟩, .op 3 ⟨(some 7), none, .p (.faddr 0 (.t 6))⟩, .op 4 ⟨(some 8), none, .p (.faddr 128 (.t 7))⟩, .op 5 ⟨(some 9),
  none, .p (.iaddrA 128 1 (.t 8) (.t 5))⟩, .op 6 ⟨(some 10), none, .r (.load none (.t 9))⟩, .op 7 ⟨(some 11), none, .r (.load none (.t 1))⟩, .op 8 ⟨(some 12), none, .p (.nilck (.t 11))⟩,
  .op 9 ⟨(some 13), none, .p (.faddr 258 (.t 12))⟩, .op 10 ⟨(some 14), none, .r (.load none (.t 13))⟩, .op 11 ⟨(some 15), none, .p (.eqB false (.t 10) (.t 14))⟩, .op 12 ⟨(some 3), none,
  .p (.mov (.t 15))⟩]) .ret))⟩

def fax_coder_own_1 : MFun := ⟨2, [.t 3], (.seq (.reg [⟨(some 3), none, .p (.mov (.k (.bool false)))⟩]) (.seq (.regd [.op 0 ⟨(some 4), none, .r (.load none (.t 1))⟩, .op 1 ⟨(some 5),
  none, .p (.mov (.t 0))⟩, .op 2 ⟨(some 6), none, .p (.nilck (.t 4))⟩, .op 3 ⟨(some 7), none, .p (.faddr 0 (.t 6))⟩, .op 4 ⟨(some 8), none, .p (.faddr 0 (.t 7))⟩, .op 5 ⟨(some 9), none,
  .p (.iaddrA 128 1 (.t 8) (.t 5))⟩, .op 6 ⟨(some 10), none, .r (.load none (.t 9))⟩, .op 7 ⟨(some 11), none, .r (.load none (.t 1))⟩, .op 8 ⟨(some 12), none, .p (.nilck (.t 11))⟩, .op
  9 ⟨(some 13), none, .p (.faddr 258 (.t 12))⟩, .op 10 ⟨(some 14), none, .r (.load none (.t 13))⟩, .op 11 ⟨(some 15), none, .p (.eqB true (.t 10) (.t 14))⟩, .op 12 ⟨(some 3), none, .p
  (.mov (.t 15))⟩]) .ret))⟩

def fax_coder_own_2 : MFun := ⟨2, [.t 3], (.seq (.reg [⟨(some 3), none, .p (.mov (.k (.bool false)))⟩]) (.seq (.regd [.op 0 ⟨(some 4), none, .r (.load none (.t 1))⟩, .op 1 ⟨(some 5),
  none, .p (.mov (.t 0))⟩, .op 2 ⟨(some 6), none, .p (.nilck (.t 4))⟩, .op 3 ⟨(some 7), none, .p (.faddr 0 (.t 6))⟩, .op 4 ⟨(some 8), none, .p (.faddr 0 (.t 7))⟩, .op 5 ⟨(some 9), none,
  .p (.iaddrA 128 1 (.t 8) (.t 5))⟩, .op 6 ⟨(some 10), none, .r (.load none (.t 9))⟩, .op 7 ⟨(some 11), none, .r (.load none (.t 1))⟩, .op 8 ⟨(some 12), none, .p (.nilck (.t 11))⟩, .op
  9 ⟨(some 13), none, .p (.faddr 258 (.t 12))⟩, .op 10 ⟨(some 14), none, .r (.load none (.t 13))⟩, .op 11 ⟨(some 15), none, .p (.eqB false (.t 10) (.t 14))⟩, .op 12 ⟨(some 3), none, .p
  (.mov (.t 15))⟩]) .ret))⟩

def math_bits_Len : MFun := ⟨1, [.t 2], (.seq (.reg [⟨(some 2), none, .p (.mov (.k (.int .i64 0)))⟩]) (.seq (.cond (.k (.bool false)) (.seq (.reg [⟨(some 3), none, .p (.mov (.t 0))⟩,
  ⟨(some 4), none, .p (.conv .u32 (.t 3))⟩, ⟨(some 5), none, .w (.call (.k (.fn 52 [] [])) [(.t 4)])⟩, ⟨(some 2), none, .p (.mov (.t 5))⟩]) .ret) .skip) (.seq (.reg [⟨(some 6), none,
  .p (.mov (.t 0))⟩, ⟨(some 7), none, .w (.call (.k (.fn 53 [] [])) [(.t 6)])⟩, ⟨(some 2), none, .p (.mov (.t 7))⟩]) .ret)))⟩

def chaseref07_pixel : MFun := ⟨2, [.t 4], (.seq (.reg [⟨(some 4), none, .p (.mov (.k (.int .i64 0)))⟩]) (.seq (.seq (.reg [⟨(some 5), none, .p (.mov (.t 1))⟩, ⟨(some 6), none, .p (.bin
  .lss (.t 5) (.k (.int .i64 0)))⟩]) (.cond (.t 6) (.seq (.reg [⟨(some 4), none, .p (.mov (.k (.int .i64 0)))⟩]) .ret) .skip)) (.seq (.reg [⟨(some 7), none, .p (.mov (.t 0))⟩, ⟨(some
  8), none, .p (.mov (.t 1))⟩, ⟨(some 9), none, .p (.iaddrS 1 (.t 7) (.t 8))⟩, ⟨(some 10), none, .r (.load none (.t 9))⟩, ⟨(some 4), none, .p (.mov (.t 10))⟩]) .ret)))⟩

def fax_filler_straight : MFun := ⟨1, [.t 2], (.seq (.reg [⟨(some 1), none, .n (.box 73 true (.t 0))⟩, ⟨(some 2), none, .p (.mov (.k (.bool false)))⟩]) (.seq (.reg [⟨(some 3), none,
  .r (.load (some 2) (.t 1))⟩, ⟨(some 4), none, .w (.call (.k (.fn 54 [] [])) [(.t 3), (.k (.int .i64 0))])⟩, ⟨(some 2), none, .p (.mov (.t 4))⟩]) .ret))⟩

def fax_filler_one : MFun := ⟨1, [.t 2], (.seq (.reg [⟨(some 1), none, .n (.box 73 true (.t 0))⟩, ⟨(some 2), none, .p (.mov (.k (.bool false)))⟩]) (.seq (.regd [.op 0 ⟨(some 3), none,
  .r (.load (some 2) (.t 1))⟩, .op 1 ⟨(some 4), none, .p (.faddr 1 (.t 1))⟩, .op 2 ⟨(some 5), none, .r (.load none (.t 4))⟩, .op 3 ⟨(some 6), none, .w (.call (.k (.fn 24 [] [])) [(.t
  5)])⟩, .re 0, .op 4 ⟨(some 7), none, .p (.bin .mul (.k (.int .i64 2)) (.t 6))⟩, .op 5 ⟨(some 8), none, .p (.bin .sub (.t 7) (.k (.int .i64 1)))⟩, .op 6 ⟨(some 9), none, .w (.call (.k
  (.fn 54 [] [])) [(.t 3), (.t 8)])⟩, .op 7 ⟨(some 2), none, .p (.mov (.t 9))⟩]) .ret))⟩

def fax_filler_horizontal : MFun := ⟨1, [.t 2], (.seq (.reg [⟨(some 1), none, .n (.box 73 true (.t 0))⟩, ⟨(some 2), none, .p (.mov (.k (.bool false)))⟩]) (.seq (.reg [⟨(some 6), none,
  .p (.faddr 0 (.t 1))⟩, ⟨(some 7), none, .r (.load none (.t 6))⟩, ⟨(some 8), none, .p (.nilck (.t 7))⟩, ⟨(some 9), none, .p (.faddr 257 (.t 8))⟩, ⟨(some 10), none, .r (.load none (.t
  9))⟩, ⟨(some 11), none, .p (.minmax true [(.t 10), (.k (.int .i64 0))])⟩, ⟨(some 3), none, .p (.mov (.t 11))⟩]) (.seq (.reg [⟨(some 12), none, .p (.mov (.t 3))⟩, ⟨(some 13), none, .p
  (.faddr 1 (.t 1))⟩, ⟨(some 14), none, .r (.load none (.t 13))⟩, ⟨(some 15), none, .w (.call (.k (.fn 55 [] [])) [(.t 14)])⟩, ⟨(some 16), none, .p (.bin .add (.t 12) (.t 15))⟩, ⟨(some
  4), none, .p (.mov (.t 16))⟩]) (.seq (.reg [⟨(some 17), none, .p (.mov (.t 4))⟩, ⟨(some 18), none, .p (.faddr 1 (.t 1))⟩, ⟨(some 19), none, .r (.load none (.t 18))⟩, ⟨(some 20), none,
  .w (.call (.k (.fn 55 [] [])) [(.t 19)])⟩, ⟨(some 21), none, .p (.bin .add (.t 17) (.t 20))⟩, ⟨(some 5), none, .p (.mov (.t 21))⟩]) (.seq (.seq (.reg [⟨(some 22), none, .p (.mov (.t
  4))⟩, ⟨(some 23), none, .p (.faddr 0 (.t 1))⟩, ⟨(some 24), none, .r (.load none (.t 23))⟩, ⟨(some 25), none, .p (.nilck (.t 24))⟩, ⟨(some 26), none, .p (.faddr 257 (.t 25))⟩, ⟨(some
  27), none, .r (.load none (.t 26))⟩, ⟨(some 28), none, .p (.bin .leq (.t 22) (.t 27))⟩, ⟨(some 29), none, .p (.mov (.t 28))⟩, ⟨(some 30), some (29, false), .p (.mov (.t 5))⟩, ⟨(some
  31), some (29, false), .p (.faddr 0 (.t 1))⟩, ⟨(some 32), some (29, false), .r (.load none (.t 31))⟩, ⟨(some 33), some (29, false), .p (.nilck (.t 32))⟩, ⟨(some 34), some (29, false),
  .p (.faddr 257 (.t 33))⟩, ⟨(some 35), some (29, false), .r (.load none (.t 34))⟩, ⟨(some 36), some (29, false), .p (.bin .leq (.t 30) (.t 35))⟩, ⟨(some 37), none, .p (.pick (.t 29)
  (.k (.bool true)) (.t 36))⟩, ⟨(some 38), none, .p (.mov (.t 37))⟩, ⟨(some 39), some (38, false), .p (.mov (.t 5))⟩, ⟨(some 40), some (38, false), .p (.faddr 0 (.t 1))⟩, ⟨(some 41),
  some (38, false), .r (.load none (.t 40))⟩, ⟨(some 42), some (38, false), .p (.nilck (.t 41))⟩, ⟨(some 43), some (38, false), .p (.faddr 256 (.t 42))⟩, ⟨(some 44), some (38, false),
  .r (.load none (.t 43))⟩, ⟨(some 45), some (38, false), .p (.bin .gtr (.t 39) (.t 44))⟩, ⟨(some 46), none, .p (.pick (.t 38) (.k (.bool true)) (.t 45))⟩]) (.seq (.keep [1, 3, 4, 5,
  46]) (.cond (.t 46) (.seq (.reg [⟨(some 2), none, .p (.mov (.k (.bool false)))⟩]) .ret) .skip))) (.seq (.keep [1, 3, 4, 5]) (.seq (.reg [⟨(some 47), none, .r (.load (some 2) (.t 1))⟩,
  ⟨(some 48), none, .p (.mov (.t 3))⟩, ⟨(some 49), none, .p (.mov (.t 4))⟩, ⟨(some 50), none, .w (.call (.k (.fn 56 [] [])) [(.t 47), (.t 48), (.t 49)])⟩]) (.seq (.regd [.op 0 ⟨(some
  51), none, .p (.faddr 0 (.t 1))⟩, .op 1 ⟨(some 52), none, .r (.load none (.t 51))⟩, .op 2 ⟨(some 53), none, .p (.faddr 0 (.t 1))⟩, .op 3 ⟨(some 54), none, .r (.load none (.t 53))⟩,
  .op 4 ⟨(some 55), none, .p (.nilck (.t 54))⟩, .op 5 ⟨(some 56), none, .p (.faddr 258 (.t 55))⟩, .op 6 ⟨(some 57), none, .r (.load none (.t 56))⟩, .op 7 ⟨(some 58), none, .p (.un .not
  (.t 57))⟩, .op 8 ⟨(some 59), none, .p (.nilck (.t 52))⟩, .op 9 ⟨(some 60), none, .p (.faddr 258 (.t 59))⟩, .op 10 ⟨none, none, .w (.store 1 (.t 60) (.t 58))⟩]) (.seq (.keep [1, 4, 5])
  (.seq (.reg [⟨(some 61), none, .r (.load (some 2) (.t 1))⟩, ⟨(some 62), none, .p (.mov (.t 4))⟩, ⟨(some 63), none, .p (.mov (.t 5))⟩, ⟨(some 64), none, .w (.call (.k (.fn 56 [] []))
  [(.t 61), (.t 62), (.t 63)])⟩]) (.seq (.regd [.op 0 ⟨(some 65), none, .p (.faddr 0 (.t 1))⟩, .op 1 ⟨(some 66), none, .r (.load none (.t 65))⟩, .op 2 ⟨(some 67), none, .p (.faddr 0 (.t
  1))⟩, .op 3 ⟨(some 68), none, .r (.load none (.t 67))⟩, .op 4 ⟨(some 69), none, .p (.nilck (.t 68))⟩, .op 5 ⟨(some 70), none, .p (.faddr 258 (.t 69))⟩, .op 6 ⟨(some 71), none, .r (.load
  none (.t 70))⟩, .op 7 ⟨(some 72), none, .p (.un .not (.t 71))⟩, .op 8 ⟨(some 73), none, .p (.nilck (.t 66))⟩, .op 9 ⟨(some 74), none, .p (.faddr 258 (.t 73))⟩, .op 10 ⟨none, none, .w
  (.store 1 (.t 74) (.t 72))⟩]) (.seq (.keep [1, 5]) (.seq (.reg [⟨(some 75), none, .p (.faddr 0 (.t 1))⟩, ⟨(some 76), none, .r (.load none (.t 75))⟩, ⟨(some 77), none, .p (.mov (.t 5))⟩,
  ⟨(some 78), none, .p (.nilck (.t 76))⟩, ⟨(some 79), none, .p (.faddr 257 (.t 78))⟩, ⟨none, none, .w (.store 1 (.t 79) (.t 77))⟩]) (.seq (.reg [⟨(some 2), none, .p (.mov (.k (.bool true)))⟩])
  .ret))))))))))))))⟩

def fax_filler_pass : MFun := ⟨1, [.t 2], (.seq (.reg [⟨(some 1), none, .n (.box 73 true (.t 0))⟩, ⟨(some 2), none, .p (.mov (.k (.bool false)))⟩]) (.seq (.reg [⟨(some 6), none, .p
  (.faddr 0 (.t 1))⟩, ⟨(some 7), none, .r (.load none (.t 6))⟩, ⟨(some 8), none, .w (.call (.k (.fn 28 [] [])) [(.t 7)])⟩, ⟨(some 5), none, .p (.mov (.t 8))⟩, ⟨(some 9), none, .p (.extr
  0 (.t 5))⟩, ⟨(some 10), none, .p (.extr 1 (.t 5))⟩, ⟨(some 3), none, .p (.mov (.t 9))⟩, ⟨(some 4), none, .p (.mov (.t 10))⟩]) (.seq (.keep [1, 4]) (.seq (.seq (.reg [⟨(some 11), none,
  .p (.mov (.t 4))⟩, ⟨(some 12), none, .p (.faddr 0 (.t 1))⟩, ⟨(some 13), none, .r (.load none (.t 12))⟩, ⟨(some 14), none, .p (.nilck (.t 13))⟩, ⟨(some 15), none, .p (.faddr 256 (.t
  14))⟩, ⟨(some 16), none, .r (.load none (.t 15))⟩, ⟨(some 17), none, .p (.bin .geq (.t 11) (.t 16))⟩]) (.cond (.t 17) (.seq (.reg [⟨(some 2), none, .p (.mov (.k (.bool false)))⟩]) .ret)
  .skip)) (.seq (.keep [1, 4]) (.seq (.regd [.op 0 ⟨(some 18), none, .r (.load (some 2) (.t 1))⟩, .op 1 ⟨(some 19), none, .p (.faddr 0 (.t 1))⟩, .op 2 ⟨(some 20), none, .r (.load none
  (.t 19))⟩, .op 3 ⟨(some 21), none, .p (.nilck (.t 20))⟩, .op 4 ⟨(some 22), none, .p (.faddr 257 (.t 21))⟩, .op 5 ⟨(some 23), none, .r (.load none (.t 22))⟩, .op 6 ⟨(some 24), none,
  .p (.mov (.t 4))⟩, .op 7 ⟨(some 25), none, .w (.call (.k (.fn 56 [] [])) [(.t 18), (.t 23), (.t 24)])⟩]) (.seq (.keep [1, 4]) (.seq (.reg [⟨(some 26), none, .p (.faddr 0 (.t 1))⟩, ⟨(some
  27), none, .r (.load none (.t 26))⟩, ⟨(some 28), none, .p (.mov (.t 4))⟩, ⟨(some 29), none, .p (.nilck (.t 27))⟩, ⟨(some 30), none, .p (.faddr 257 (.t 29))⟩, ⟨none, none, .w (.store
  1 (.t 30) (.t 28))⟩]) (.seq (.reg [⟨(some 2), none, .p (.mov (.k (.bool true)))⟩]) .ret)))))))))⟩

def fax_filler_two : MFun := ⟨1, [.t 2], (.seq (.reg [⟨(some 1), none, .n (.box 73 true (.t 0))⟩, ⟨(some 2), none, .p (.mov (.k (.bool false)))⟩]) (.seq (.regd [.op 0 ⟨(some 3), none,
  .r (.load (some 2) (.t 1))⟩, .op 1 ⟨(some 4), none, .p (.faddr 1 (.t 1))⟩, .op 2 ⟨(some 5), none, .r (.load none (.t 4))⟩, .op 3 ⟨(some 6), none, .w (.call (.k (.fn 24 [] [])) [(.t
  5)])⟩, .re 0, .op 4 ⟨(some 7), none, .p (.bin .mul (.k (.int .i64 4)) (.t 6))⟩, .op 5 ⟨(some 8), none, .p (.bin .sub (.t 7) (.k (.int .i64 2)))⟩, .op 6 ⟨(some 9), none, .w (.call (.k
  (.fn 54 [] [])) [(.t 3), (.t 8)])⟩, .op 7 ⟨(some 2), none, .p (.mov (.t 9))⟩]) .ret))⟩

def fax_filler_three : MFun := ⟨1, [.t 2], (.seq (.reg [⟨(some 1), none, .n (.box 73 true (.t 0))⟩, ⟨(some 2), none, .p (.mov (.k (.bool false)))⟩]) (.seq (.regd [.op 0 ⟨(some 3), none,
  .r (.load (some 2) (.t 1))⟩, .op 1 ⟨(some 4), none, .p (.faddr 1 (.t 1))⟩, .op 2 ⟨(some 5), none, .r (.load none (.t 4))⟩, .op 3 ⟨(some 6), none, .w (.call (.k (.fn 24 [] [])) [(.t
  5)])⟩, .re 0, .op 4 ⟨(some 7), none, .p (.bin .mul (.k (.int .i64 6)) (.t 6))⟩, .op 5 ⟨(some 8), none, .p (.bin .sub (.t 7) (.k (.int .i64 3)))⟩, .op 6 ⟨(some 9), none, .w (.call (.k
  (.fn 54 [] [])) [(.t 3), (.t 8)])⟩, .op 7 ⟨(some 2), none, .p (.mov (.t 9))⟩]) .ret))⟩

def math_bits_Len32 : MFun := ⟨1, [.t 2], (.seq (.reg [⟨(some 2), none, .p (.mov (.k (.int .i64 0)))⟩]) (.seq (.seq (.reg [⟨(some 3), none, .p (.mov (.t 0))⟩, ⟨(some 4), none, .p (.bin
  .geq (.t 3) (.k (.int .u32 65536)))⟩]) (.cond (.t 4) (.seq (.reg [⟨(some 5), none, .p (.mov (.t 0))⟩, ⟨(some 6), none, .p (.bin .shr (.t 5) (.k (.int .u64 16)))⟩, ⟨(some 0), none, .p
  (.mov (.t 6))⟩]) (.reg [⟨(some 2), none, .p (.mov (.k (.int .i64 16)))⟩])) .skip)) (.seq (.seq (.reg [⟨(some 7), none, .p (.mov (.t 0))⟩, ⟨(some 8), none, .p (.bin .geq (.t 7) (.k (.int
  .u32 256)))⟩]) (.cond (.t 8) (.seq (.reg [⟨(some 9), none, .p (.mov (.t 0))⟩, ⟨(some 10), none, .p (.bin .shr (.t 9) (.k (.int .u64 8)))⟩, ⟨(some 0), none, .p (.mov (.t 10))⟩]) (.reg
  [⟨(some 11), none, .p (.mov (.t 2))⟩, ⟨(some 12), none, .p (.bin .add (.t 11) (.k (.int .i64 8)))⟩, ⟨(some 2), none, .p (.mov (.t 12))⟩])) .skip)) (.seq (.keep [0, 2]) (.seq (.reg [⟨(some
  13), none, .p (.mov (.t 2))⟩, ⟨(some 14), none, .p (.mov (.t 0))⟩, ⟨(some 15), none, .p (.conv .u8 (.t 14))⟩, ⟨(some 16), none, .p (.idxS (.k (.str [0, 1, 2, 2, 3, 3, 3, 3, 4, 4, 4,
  4, 4, 4, 4, 4, 5, 5, 5, 5, 5, 5, 5, 5, 5, 5, 5, 5, 5, 5, 5, 5, 6, 6, 6, 6, 6, 6, 6, 6, 6, 6, 6, 6, 6, 6, 6, 6, 6, 6, 6, 6, 6, 6, 6, 6, 6, 6, 6, 6, 6, 6, 6, 6, 7, 7, 7, 7, 7, 7, 7, 7,
  7, 7, 7, 7, 7, 7, 7, 7, 7, 7, 7, 7, 7, 7, 7, 7, 7, 7, 7, 7, 7, 7, 7, 7, 7, 7, 7, 7, 7, 7, 7, 7, 7, 7, 7, 7, 7, 7, 7, 7, 7, 7, 7, 7, 7, 7, 7, 7, 7, 7, 7, 7, 7, 7, 7, 7, 8, 8, 8, 8, 8,
  8, 8, 8, 8, 8, 8, 8, 8, 8, 8, 8, 8, 8, 8, 8, 8, 8, 8, 8, 8, 8, 8, 8, 8, 8, 8, 8, 8, 8, 8, 8, 8, 8, 8, 8, 8, 8, 8, 8, 8, 8, 8, 8, 8, 8, 8, 8, 8, 8, 8, 8, 8, 8, 8, 8, 8, 8, 8, 8, 8, 8,
  8, 8, 8, 8, 8, 8, 8, 8, 8, 8, 8, 8, 8, 8, 8, 8, 8, 8, 8, 8, 8, 8, 8, 8, 8, 8, 8, 8, 8, 8, 8, 8, 8, 8, 8, 8, 8, 8, 8, 8, 8, 8, 8, 8, 8, 8, 8, 8, 8, 8, 8, 8, 8, 8, 8, 8, 8, 8, 8, 8, 8,
  8])) (.t 15))⟩, ⟨(some 17), none, .p (.conv .i64 (.t 16))⟩, ⟨(some 18), none, .p (.bin .add (.t 13) (.t 17))⟩, ⟨(some 2), none, .p (.mov (.t 18))⟩]) .ret)))))⟩

def math_bits_Len64 : MFun := ⟨1, [.t 2], (.seq (.reg [⟨(some 2), none, .p (.mov (.k (.int .i64 0)))⟩]) (.seq (.seq (.reg [⟨(some 3), none, .p (.mov (.t 0))⟩, ⟨(some 4), none, .p (.bin
  .geq (.t 3) (.k (.int .u64 4294967296)))⟩]) (.cond (.t 4) (.seq (.reg [⟨(some 5), none, .p (.mov (.t 0))⟩, ⟨(some 6), none, .p (.bin .shr (.t 5) (.k (.int .u64 32)))⟩, ⟨(some 0), none,
  .p (.mov (.t 6))⟩]) (.reg [⟨(some 2), none, .p (.mov (.k (.int .i64 32)))⟩])) .skip)) (.seq (.seq (.reg [⟨(some 7), none, .p (.mov (.t 0))⟩, ⟨(some 8), none, .p (.bin .geq (.t 7) (.k
  (.int .u64 65536)))⟩]) (.cond (.t 8) (.seq (.reg [⟨(some 9), none, .p (.mov (.t 0))⟩, ⟨(some 10), none, .p (.bin .shr (.t 9) (.k (.int .u64 16)))⟩, ⟨(some 0), none, .p (.mov (.t 10))⟩])
  (.reg [⟨(some 11), none, .p (.mov (.t 2))⟩, ⟨(some 12), none, .p (.bin .add (.t 11) (.k (.int .i64 16)))⟩, ⟨(some 2), none, .p (.mov (.t 12))⟩])) .skip)) (.seq (.keep [0, 2]) (.seq
  (.seq (.reg [⟨(some 13), none, .p (.mov (.t 0))⟩, ⟨(some 14), none, .p (.bin .geq (.t 13) (.k (.int .u64 256)))⟩]) (.cond (.t 14) (.seq (.reg [⟨(some 15), none, .p (.mov (.t 0))⟩, ⟨(some
  16), none, .p (.bin .shr (.t 15) (.k (.int .u64 8)))⟩, ⟨(some 0), none, .p (.mov (.t 16))⟩]) (.reg [⟨(some 17), none, .p (.mov (.t 2))⟩, ⟨(some 18), none, .p (.bin .add (.t 17) (.k
  (.int .i64 8)))⟩, ⟨(some 2), none, .p (.mov (.t 18))⟩])) .skip)) (.seq (.keep [0, 2]) (.seq (.reg [⟨(some 19), none, .p (.mov (.t 2))⟩, ⟨(some 20), none, .p (.mov (.t 0))⟩, ⟨(some 21),
  none, .p (.conv .u8 (.t 20))⟩, ⟨(some 22), none, .p (.idxS (.k (.str [0, 1, 2, 2, 3, 3, 3, 3, 4, 4, 4, 4, 4, 4, 4, 4, 5, 5, 5, 5, 5, 5, 5, 5, 5, 5, 5, 5, 5, 5, 5, 5, 6, 6, 6, 6, 6,
  6, 6, 6, 6, 6, 6, 6, 6, 6, 6, 6, 6, 6, 6, 6, 6, 6, 6, 6, 6, 6, 6, 6, 6, 6, 6, 6, 7, 7, 7, 7, 7, 7, 7, 7, 7, 7, 7, 7, 7, 7, 7, 7, 7, 7, 7, 7, 7, 7, 7, 7, 7, 7, 7, 7, 7, 7, 7, 7, 7, 7,
  7, 7, 7, 7, 7, 7, 7, 7, 7, 7, 7, 7, 7, 7, 7, 7, 7, 7, 7, 7, 7, 7, 7, 7, 7, 7, 7, 7, 7, 7, 8, 8, 8, 8, 8, 8, 8, 8, 8, 8, 8, 8, 8, 8, 8, 8, 8, 8, 8, 8, 8, 8, 8, 8, 8, 8, 8, 8, 8, 8, 8,
  8, 8, 8, 8, 8, 8, 8, 8, 8, 8, 8, 8, 8, 8, 8, 8, 8, 8, 8, 8, 8, 8, 8, 8, 8, 8, 8, 8, 8, 8, 8, 8, 8, 8, 8, 8, 8, 8, 8, 8, 8, 8, 8, 8, 8, 8, 8, 8, 8, 8, 8, 8, 8, 8, 8, 8, 8, 8, 8, 8, 8,
  8, 8, 8, 8, 8, 8, 8, 8, 8, 8, 8, 8, 8, 8, 8, 8, 8, 8, 8, 8, 8, 8, 8, 8, 8, 8, 8, 8, 8, 8, 8, 8, 8, 8, 8, 8])) (.t 21))⟩, ⟨(some 23), none, .p (.conv .i64 (.t 22))⟩, ⟨(some 24), none,
  .p (.bin .add (.t 19) (.t 23))⟩, ⟨(some 2), none, .p (.mov (.t 24))⟩]) .ret)))))))⟩

def fax_filler_vertical : MFun := ⟨2, [.t 4], (.seq (.reg [⟨(some 2), none, .n (.box 73 true (.t 0))⟩, ⟨(some 4), none, .p (.mov (.k (.bool false)))⟩]) (.seq (.reg [⟨(some 9), none,
  .p (.faddr 0 (.t 2))⟩, ⟨(some 10), none, .r (.load none (.t 9))⟩, ⟨(some 11), none, .w (.call (.k (.fn 28 [] [])) [(.t 10)])⟩, ⟨(some 8), none, .p (.mov (.t 11))⟩, ⟨(some 12), none,
  .p (.extr 0 (.t 8))⟩, ⟨(some 13), none, .p (.extr 1 (.t 8))⟩, ⟨(some 5), none, .p (.mov (.t 12))⟩, ⟨(some 6), none, .p (.mov (.t 13))⟩]) (.seq (.keep [1, 2, 5]) (.seq (.reg [⟨(some
  14), none, .p (.mov (.t 5))⟩, ⟨(some 15), none, .p (.mov (.t 1))⟩, ⟨(some 16), none, .p (.bin .add (.t 14) (.t 15))⟩, ⟨(some 7), none, .p (.mov (.t 16))⟩]) (.seq (.seq (.reg [⟨(some
  17), none, .p (.mov (.t 7))⟩, ⟨(some 18), none, .p (.faddr 0 (.t 2))⟩, ⟨(some 19), none, .r (.load none (.t 18))⟩, ⟨(some 20), none, .p (.nilck (.t 19))⟩, ⟨(some 21), none, .p (.faddr
  257 (.t 20))⟩, ⟨(some 22), none, .r (.load none (.t 21))⟩, ⟨(some 23), none, .p (.bin .leq (.t 17) (.t 22))⟩, ⟨(some 24), none, .p (.mov (.t 23))⟩, ⟨(some 25), some (24, false), .p
  (.mov (.t 7))⟩, ⟨(some 26), some (24, false), .p (.bin .lss (.t 25) (.k (.int .i64 0)))⟩, ⟨(some 27), none, .p (.pick (.t 24) (.k (.bool true)) (.t 26))⟩, ⟨(some 28), none, .p (.mov
  (.t 27))⟩, ⟨(some 29), some (28, false), .p (.mov (.t 7))⟩, ⟨(some 30), some (28, false), .p (.faddr 0 (.t 2))⟩, ⟨(some 31), some (28, false), .r (.load none (.t 30))⟩, ⟨(some 32),
  some (28, false), .p (.nilck (.t 31))⟩, ⟨(some 33), some (28, false), .p (.faddr 256 (.t 32))⟩, ⟨(some 34), some (28, false), .r (.load none (.t 33))⟩, ⟨(some 35), some (28, false),
  .p (.bin .gtr (.t 29) (.t 34))⟩, ⟨(some 36), none, .p (.pick (.t 28) (.k (.bool true)) (.t 35))⟩]) (.seq (.keep [2, 7, 36]) (.cond (.t 36) (.seq (.reg [⟨(some 4), none, .p (.mov (.k
  (.bool false)))⟩]) .ret) .skip))) (.seq (.keep [2, 7]) (.seq (.regd [.op 0 ⟨(some 37), none, .r (.load (some 2) (.t 2))⟩, .op 1 ⟨(some 38), none, .p (.faddr 0 (.t 2))⟩, .op 2 ⟨(some
  39), none, .r (.load none (.t 38))⟩, .op 3 ⟨(some 40), none, .p (.nilck (.t 39))⟩, .op 4 ⟨(some 41), none, .p (.faddr 257 (.t 40))⟩, .op 5 ⟨(some 42), none, .r (.load none (.t 41))⟩,
  .op 6 ⟨(some 43), none, .p (.mov (.t 7))⟩, .op 7 ⟨(some 44), none, .w (.call (.k (.fn 56 [] [])) [(.t 37), (.t 42), (.t 43)])⟩]) (.seq (.keep [2, 7]) (.seq (.regd [.op 0 ⟨(some 45),
  none, .p (.faddr 0 (.t 2))⟩, .op 1 ⟨(some 46), none, .r (.load none (.t 45))⟩, .op 2 ⟨(some 47), none, .p (.faddr 0 (.t 2))⟩, .op 3 ⟨(some 48), none, .r (.load none (.t 47))⟩, .op 5
  ⟨(some 50), none, .p (.faddr 0 (.t 2))⟩, .op 6 ⟨(some 51), none, .r (.load none (.t 50))⟩, .op 7 ⟨(some 52), none, .p (.nilck (.t 51))⟩, .op 8 ⟨(some 53), none, .p (.faddr 258 (.t 52))⟩,
  .op 9 ⟨(some 54), none, .r (.load none (.t 53))⟩, .op 4 ⟨(some 49), none, .p (.mov (.t 7))⟩, .op 11 ⟨(some 56), none, .p (.nilck (.t 46))⟩, .op 12 ⟨(some 57), none, .p (.faddr 257 (.t
  56))⟩, .op 13 ⟨none, none, .w (.store 1 (.t 57) (.t 49))⟩, .re 3, .op 10 ⟨(some 55), none, .p (.un .not (.t 54))⟩, .op 14 ⟨(some 58), none, .p (.nilck (.t 48))⟩, .op 15 ⟨(some 59),
  none, .p (.faddr 258 (.t 58))⟩, .op 16 ⟨none, none, .w (.store 1 (.t 59) (.t 55))⟩]) (.seq (.keep []) (.seq (.reg [⟨(some 4), none, .p (.mov (.k (.bool true)))⟩]) .ret)))))))))))⟩

def fax_reader_run_l0 : MCode := (.seq (.keep [0, 3]) (.seq (.seq (.reg [⟨(some 4), none, .p (.mov (.t 0))⟩, ⟨(some 5), none, .w (.call (.k (.fn 24 [] [])) [(.t 4)])⟩, ⟨(some 6), none,
  .p (.bin .eql (.t 5) (.k (.int .i64 0)))⟩, ⟨(some 7), none, .p (.mov (.t 6))⟩, ⟨(some 8), some (7, true), .p (.mov (.t 0))⟩, ⟨(some 9), some (7, true), .p (.nilck (.t 8))⟩, ⟨(some 10),
  some (7, true), .p (.faddr 2 (.t 9))⟩, ⟨(some 11), some (7, true), .r (.load none (.t 10))⟩, ⟨(some 12), some (7, true), .p (.un .not (.t 11))⟩, ⟨(some 13), none, .p (.pick (.t 7) (.t
  12) (.k (.bool false)))⟩]) (.cond (.t 13) .skip (.exit 0))) (.seq (.keep [0, 3]) (.block 1 (.reg [⟨(some 14), none, .p (.mov (.t 3))⟩, ⟨(some 15), none, .p (.bin .add (.t 14) (.k (.int
  .i64 1)))⟩, ⟨(some 3), none, .p (.mov (.t 15))⟩])))))
def fax_reader_run : MFun := ⟨1, [.t 2], (.seq (.reg [⟨(some 2), none, .p (.mov (.k (.int .i64 0)))⟩]) (.seq (.reg [⟨(some 3), none, .p (.mov (.k (.int .i64 0)))⟩]) (.seq (.block 0
  (.loop fax_reader_run_l0)) (.seq (.keep [0, 3]) (.seq (.seq (.reg [⟨(some 16), none, .p (.mov (.t 3))⟩, ⟨(some 17), none, .p (.bin .gtr (.t 16) (.k (.int .i64 8)))⟩]) (.cond (.t 17)
  (.seq (.reg [⟨(some 2), none, .p (.mov (.k (.int .i64 129)))⟩]) .ret) .skip)) (.seq (.reg [⟨(some 18), none, .p (.mov (.t 0))⟩, ⟨(some 19), none, .p (.mov (.t 3))⟩, ⟨(some 20), none,
  .w (.call (.k (.fn 57 [] [])) [(.t 18), (.k (.int .i64 1)), (.t 19)])⟩, ⟨(some 21), none, .p (.bin .sub (.t 20) (.k (.int .i64 1)))⟩, ⟨(some 2), none, .p (.mov (.t 21))⟩]) .ret))))))⟩

def fax_filler_fill_l0 : MCode := (.seq (.keep [2, 3, 6]) (.seq (.seq (.reg [⟨(some 9), none, .p (.mov (.t 6))⟩, ⟨(some 10), none, .p (.mov (.t 2))⟩, ⟨(some 11), none, .p (.bin .lss
  (.t 9) (.t 10))⟩]) (.cond (.t 11) .skip (.exit 0))) (.seq (.block 1 (.regd [.op 0 ⟨(some 14), none, .p (.faddr 0 (.t 3))⟩, .op 1 ⟨(some 15), none, .r (.load none (.t 14))⟩, .op 3 ⟨(some
  17), none, .p (.faddr 0 (.t 3))⟩, .op 4 ⟨(some 18), none, .r (.load none (.t 17))⟩, .op 5 ⟨(some 19), none, .p (.nilck (.t 18))⟩, .op 6 ⟨(some 20), none, .p (.faddr 258 (.t 19))⟩, .op
  7 ⟨(some 21), none, .r (.load none (.t 20))⟩, .op 2 ⟨(some 16), none, .p (.mov (.t 6))⟩, .op 8 ⟨(some 22), none, .p (.nilck (.t 15))⟩, .op 9 ⟨(some 23), none, .p (.faddr 0 (.t 22))⟩,
  .op 10 ⟨(some 24), none, .p (.faddr 0 (.t 23))⟩, .op 11 ⟨(some 25), none, .p (.iaddrA 128 1 (.t 24) (.t 16))⟩, .op 12 ⟨none, none, .w (.store 1 (.t 25) (.t 21))⟩])) (.seq (.keep [2,
  3, 6]) (.reg [⟨(some 12), none, .p (.mov (.t 6))⟩, ⟨(some 13), none, .p (.bin .add (.t 12) (.k (.int .i64 1)))⟩, ⟨(some 6), none, .p (.mov (.t 13))⟩])))))
def fax_filler_fill : MFun := ⟨3, [], (.seq (.reg [⟨(some 3), none, .n (.box 73 true (.t 0))⟩]) (.seq (.reg [⟨(some 7), none, .p (.mov (.t 1))⟩, ⟨(some 8), none, .p (.minmax true [(.t
  7), (.k (.int .i64 0))])⟩, ⟨(some 6), none, .p (.mov (.t 8))⟩]) (.block 0 (.loop fax_filler_fill_l0))))⟩

def fax_reader_number_l0 : MCode := (.seq (.keep [0, 1, 7, 8]) (.seq (.reg [⟨(some 9), none, .p (.bin .lss (.t 8) (.t 7))⟩]) (.seq (.cond (.t 9) .skip (.exit 0)) (.seq (.block 1 (.reg
  [⟨(some 10), none, .p (.mov (.t 1))⟩, ⟨(some 11), none, .p (.bin .mul (.k (.int .i64 2)) (.t 10))⟩, ⟨(some 12), none, .p (.mov (.t 0))⟩, ⟨(some 13), none, .w (.call (.k (.fn 24 [] []))
  [(.t 12)])⟩, ⟨(some 14), none, .p (.bin .add (.t 11) (.t 13))⟩, ⟨(some 1), none, .p (.mov (.t 14))⟩])) (.reg [⟨(some 15), none, .p (.bin .add (.t 8) (.k (.int .i64 1)))⟩, ⟨(some 8),
  none, .p (.mov (.t 15))⟩])))))
def fax_reader_number : MFun := ⟨3, [.t 6], (.seq (.reg [⟨(some 6), none, .p (.mov (.k (.int .i64 0)))⟩]) (.seq (.seq (.reg [⟨(some 7), none, .p (.mov (.t 2))⟩, ⟨(some 8), none, .p
  (.mov (.k (.int .i64 0)))⟩]) (.block 0 (.loop fax_reader_number_l0))) (.seq (.keep [1]) (.seq (.reg [⟨(some 16), none, .p (.mov (.t 1))⟩, ⟨(some 6), none, .p (.mov (.t 16))⟩]) .ret))))⟩


/-- A table that holds these functions. -/
structure HasFax (T : Tab) : Prop where
  e0 : T.en 0 = none
  f0 : T.fn 0 = some chaselaw07_FaxEncodes
  e1 : T.en 1 = none
  f1 : T.fn 1 = some chaselaw07_FaxDecodes
  e2 : T.en 2 = none
  f2 : T.fn 2 = some chaselaw07_FaxBack
  e3 : T.en 3 = none
  f3 : T.fn 3 = some chaselaw07_FaxMirrors
  e4 : T.en 4 = none
  f4 : T.fn 4 = some chaselaw07_FaxSame
  e5 : T.en 5 = none
  f5 : T.fn 5 = some chaselaw07_FaxKnown
  e6 : T.en 6 = none
  f6 : T.fn 6 = some chaselaw07_works
  e7 : T.en 7 = none
  f7 : T.fn 7 = some chaseref07_Draft_Width
  e8 : T.en 8 = none
  f8 : T.fn 8 = some chaseref07_Draft_Data
  e9 : T.en 9 = none
  f9 : T.fn 9 = some fax_Encode
  e10 : T.en 10 = none
  f10 : T.fn 10 = some chaseref07_Encode
  e11 : T.en 11 = none
  f11 : T.fn 11 = some fax_Decode
  e12 : T.en 12 = none
  f12 : T.fn 12 = some chaseref07_Decode
  e14 : T.en 14 = none
  f14 : T.fn 14 = some chaselaw07_codes
  e15 : T.en 15 = none
  f15 : T.fn 15 = some chaseref07_Pack
  e16 : T.en 16 = none
  f16 : T.fn 16 = some fax_octets
  e17 : T.en 17 = none
  f17 : T.fn 17 = some fax_unpack
  e18 : T.en 18 = none
  f18 : T.fn 18 = some fax_writer_put
  e19 : T.en 19 = none
  f19 : T.fn 19 = some fax_coder_write
  e20 : T.en 20 = none
  f20 : T.fn 20 = some chaseref07_Rows
  e21 : T.en 21 = none
  f21 : T.fn 21 = some chaseref07_Row
  e22 : T.en 22 = none
  f22 : T.fn 22 = some chaseref07_word
  e23 : T.en 23 = none
  f23 : T.fn 23 = some fax_filler_next
  e24 : T.en 24 = none
  f24 : T.fn 24 = some fax_reader_bit
  e25 : T.en 25 = none
  f25 : T.fn 25 = some chaseref07_Bits
  e26 : T.en 26 = none
  f26 : T.fn 26 = some chaseref07_starts
  e27 : T.en 27 = none
  f27 : T.fn 27 = some chaseref07_readRow
  e28 : T.en 28 = none
  f28 : T.fn 28 = some fax_coder_ahead
  e29 : T.en 29 = none
  f29 : T.fn 29 = some fax_coder_own
  e30 : T.en 30 = none
  f30 : T.fn 30 = some fax_vertical
  e31 : T.en 31 = none
  f31 : T.fn 31 = some fax_run
  e32 : T.en 32 = none
  f32 : T.fn 32 = some chaseref07_Change
  e33 : T.en 33 = none
  f33 : T.fn 33 = some chaseref07_Edge
  e34 : T.en 34 = none
  f34 : T.fn 34 = some chaseref07_Vertical
  e35 : T.en 35 = none
  f35 : T.fn 35 = some chaseref07_Run
  e36 : T.en 36 = none
  f36 : T.fn 36 = some fax_reader_zeros
  e37 : T.en 37 = none
  f37 : T.fn 37 = some fax_modes
  e38 : T.en 38 = none
  f38 : T.fn 38 = some chaseref07_readRun
  e39 : T.en 39 = none
  f39 : T.fn 39 = some fax_coder_ahead_1
  e40 : T.en 40 = none
  f40 : T.fn 40 = some fax_first_int
  e41 : T.en 41 = none
  f41 : T.fn 41 = some fax_coder_ahead_2
  e42 : T.en 42 = none
  f42 : T.fn 42 = some fax_coder_own_1
  e43 : T.en 43 = none
  f43 : T.fn 43 = some fax_coder_own_2
  e44 : T.en 44 = none
  f44 : T.fn 44 = some math_bits_Len
  e45 : T.en 45 = none
  f45 : T.fn 45 = some chaseref07_pixel
  e46 : T.en 46 = none
  f46 : T.fn 46 = some fax_filler_straight
  e47 : T.en 47 = none
  f47 : T.fn 47 = some fax_filler_one
  e48 : T.en 48 = none
  f48 : T.fn 48 = some fax_filler_horizontal
  e49 : T.en 49 = none
  f49 : T.fn 49 = some fax_filler_pass
  e50 : T.en 50 = none
  f50 : T.fn 50 = some fax_filler_two
  e51 : T.en 51 = none
  f51 : T.fn 51 = some fax_filler_three
  e52 : T.en 52 = none
  f52 : T.fn 52 = some math_bits_Len32
  e53 : T.en 53 = none
  f53 : T.fn 53 = some math_bits_Len64
  e54 : T.en 54 = none
  f54 : T.fn 54 = some fax_filler_vertical
  e55 : T.en 55 = none
  f55 : T.fn 55 = some fax_reader_run
  e56 : T.en 56 = none
  f56 : T.fn 56 = some fax_filler_fill
  e57 : T.en 57 = none
  f57 : T.fn 57 = some fax_reader_number

end Go.Ev.B
