/- The chapter's examples. -/
import Derived.Test.YtodphnhkhnebcaaP07
import Derived.Test.YtodphnhkhnebcaaP05
import Derived.Test.YtodphnhkhnebcaaProg
import Derived.Shelf.Strings.Builder1
import Derived.Shelf.Strings.Builder2
import Derived.Shelf.Small.Utf8
import Derived.Shelf.Small.Strs
import Derived.Shelf.Strings.BuilderF
import Derived.Shelf.Strings.BuilderK
import Derived.Shelf.Strings.Builder2Cap
import Derived.Shelf.Strings.Search1
import Derived.Shelf.Strings.Search2
import Derived.Shelf.Strings.Cut
import Derived.Shelf.LaysM
import Derived.Shelf.Strings.Shaped
import Derived.Shelf.Strings.Prefix
import Derived.Shelf.Strings.Runes
import Derived.Shelf.Strings.IndexAny
import Derived.Shelf.Strings.AsciiSet
import Derived.Shelf.Strings.IndexAnyAll
import Derived.Shelf.Bits.Mul64
import Derived.Shelf.Strings.Repeat
namespace Go.Ev
open Go
set_option linter.unusedSimpArgs false
set_option linter.unusedSectionVars false
set_option linter.unusedVariables false

variable {T : Tab} {st : St}

theorem ex1 : numT [45, 48, 48, 55] = (1, -7, 0) := by kernel_rfl
theorem ex2 : numT [49, 54, 35, 70, 102] = (1, 255, 0) := by kernel_rfl
theorem ex3 : numT [51, 46] = (2, 196608, 0) := by kernel_rfl
theorem ex4 : numT [49, 101, 50] = (2, 6553600, 0) := by kernel_rfl
theorem ex5 : (numT [50, 35, 49, 48, 50]).2.2 = 5 := by kernel_rfl
theorem ex6 : (numT [43]).2.2 = 5 := by kernel_rfl
theorem ex7 : (numT [51, 55, 35, 49]).2.2 = 5 := by kernel_rfl
theorem ex8 : (numT [50, 49, 52, 55, 52, 56, 51, 54, 52, 56]).2.2 = 26 := by kernel_rfl
theorem ex9 : (numT [51, 54, 35, 122, 122, 122, 122, 122, 122]).2.2 = 26 := by kernel_rfl
theorem ex10 : (numT [52, 48, 48, 48, 48, 46, 53]).2.2 = 26 := by kernel_rfl
theorem ex11 : wordT [97, 98, 99] = (3, 0, [97, 98, 99], 0) := by kernel_rfl
theorem ex12 : wordT [49, 97] = (3, 0, [49, 97], 0) := by kernel_rfl
theorem ex13 : wordT [49, 50] = (1, 12, [], 0) := by kernel_rfl
theorem ex14 : wordT [97, 40, 98] = (0, 0, [], 5) := by kernel_rfl
theorem ex15 : unquoteT [40, 97, 40, 98, 41, 92, 99, 92, 48, 54, 51, 92, 110, 41, 120] = ([97, 40, 98, 41, 99, 51, 10], 14, 0) := by kernel_rfl
theorem ex16 : unquoteT [40, 92, 49, 50, 51, 52, 41] = ([83, 52], 7, 0) := by kernel_rfl
theorem ex17 : unquoteT [40, 40, 41] = ([], 0, 5) := by kernel_rfl
theorem ex18 : quoteS [97, 40, 92, 10, 200] = [40, 97, 92, 40, 92, 92, 92, 48, 49, 50, 92, 51, 49, 48, 41] := by kernel_rfl
theorem ex19 : rightT 3 0 [49, 50] = false := by kernel_rfl
theorem ex20 : rightT 4 0 [] = true := by kernel_rfl
theorem ex21 : rightT 3 0 [60, 60] = true := by kernel_rfl

theorem num_call {s : List UInt8} (H : B.H_lex_Number T) (hwf : st.Wf) {K N E : Int} (h : numT s = (K, N, E)) (hs : s.length < 4000000000000000000) : Tells T st (.fn 63 [] []) [.str s] (tokA K N [] E) := by
  have := number_tells H hwf hs
  rw [h] at this
  exact this

theorem works_round (H : B.H_chaselaw03_works T) (hwf : st.Wf) {e : Env} {s : List UInt8} {E : Int} (hs : s.length < 4000000000000000000) (h : (numT s).2.2 = E) :
    Round T 36 37 38 [B.p 39 (.extr 0 38), B.p 40 (.extr 1 38), B.p 2 (.mov 39), B.p 3 (.mov 40)] [35, 1] B.chaselaw03_works_l0 e st (.str s) (.int .i64 E) := by
  unfold Round
  simp [go_sem, B.chaselaw03_works_l0]
  refine (number_tells H.lex_Number hwf hs).use fun s1 x1 => ?_
  simp [go_sem, toA, tokA, tokC, NO.run, WO.run, wr_tok, h]
  refine ⟨?_, (x1.trans (Ext.new x1.wf _)).kept hwf⟩
  intro r hr
  simp at hr
  rcases hr with rfl | rfl <;> simp [go_sem]

theorem tok2 {s : St} {n : Nat} {k m : Int} {t : List UInt8} {l : Bool} (g : hget s.h n = some (.cells 134 l [.int .i64 k, .int .i64 m, .str t])) : rdCell s.h n 1 = some (.int .i64 m) ∧ rdCell s.h n 2 = some (.str t) := by simp [rdCell, g]

theorem word_call {s : List UInt8} (H : B.H_lex_Word T) (hwf : st.Wf) {K N E : Int} {t : List UInt8} (h : wordT s = (K, N, t, E)) (hs : s.length < 4000000000000000000) : Tells T st (.fn 65 [] []) [.str s] (tokA K N t E) := by
  have := word_tells H hwf hs
  rw [h] at this
  exact this
theorem unq_call {s : List UInt8} (H : B.H_lex_Unquote T) (hwf : st.Wf) {N : Nat} {E : Int} {t : List UInt8} (h : unquoteT s = (t, N, E)) (hs : s.length < 1000000000000) : Tells T st (.fn 69 [] []) [.str s] (.tuple [.str t, .int .i64 (N : Int), .int .i64 E]) := by
  have := unquote_tells H hwf hs
  rw [h] at this
  exact this
theorem quo_call {s t : List UInt8} (H : B.H_lex_Quote T) (hwf : st.Wf) (h : quoteS s = t) (hs : s.length < 1000000000000) : Tells T st (.fn 71 [] []) [.str s] (.str t) := by
  have := quote_tells H hwf hs
  rw [h] at this
  exact this
theorem chk_call {k n : Int} {t : List UInt8} {b : Bool} (H : B.H_lex_Check T) (hwf : st.Wf) (h : rightT k n t = b) (hs : t.length < 4000000000000000000) : Tells T st (.fn 74 [] []) [.agg [.int .i64 k, .int .i64 n, .str t]] (.int .i64 (if b = true then 0 else 130)) := by
  have := check_tells H hwf (k := k) (n := n) hs
  rw [h] at this
  exact this

theorem works_tells (H : B.H_chaselaw03_works T) (hwf : st.Wf) : Tells T st (.fn 62 [] []) [] (.bool true) := by
  refine tells_of H.e H.f rfl ?_
  simp [B.chaselaw03_works, go_sem]
  refine (number73_tells H.chaselaw03_number hwf (by simp)).use fun s1 x1 => ?_
  simp [go_sem, ex1, isT]
  refine (number73_tells H.chaselaw03_number x1.wf (by simp)).use fun s2 x2' => ?_
  have x2 := x1.trans x2'
  simp [go_sem, ex2, isT]
  refine (number73_tells H.chaselaw03_number x2.wf (by simp)).use fun s3 x3' => ?_
  have x3 := x2.trans x3'
  simp [go_sem, ex3, isT]
  refine (number73_tells H.chaselaw03_number x3.wf (by simp)).use fun s4 x4' => ?_
  have x4 := x3.trans x4'
  simp [go_sem, ex4, isT]
  refine res_rangeMap ?_
  simp [go_sem, NO.run, WO.run, hget_cons, hset_cons, mins, cellEqK, seq8]
  generalize hm : AObj.map _ = M
  have y5 : Ext st ⟨hdel ((s4.nx, M) :: s4.h) s4.nx, s4.nx + 1 + 1⟩ := by
    have a := x4.trans (Ext.new x4.wf M)
    have b := a.trans (Ext.aside a.wf 1)
    exact b.frm (Frm.hdel b.wf s4.nx) (by simpa using x4.nx)
  clear hm
  generalize hS : (⟨hdel ((s4.nx, M) :: s4.h) s4.nx, s4.nx + 1 + 1⟩ : St) = s5 at y5 ⊢
  clear hS
  refine ⟨?_, ?_⟩
  · rintro a b (⟨rfl, rfl⟩ | ⟨rfl, rfl⟩ | ⟨rfl, rfl⟩ | ⟨rfl, rfl⟩ | ⟨rfl, rfl⟩ | ⟨rfl, rfl⟩)
    · exact works_round H y5.wf (by simp) ex5
    · exact works_round H y5.wf (by simp) ex6
    · exact works_round H y5.wf (by simp) ex7
    · exact works_round H y5.wf (by simp) ex8
    · exact works_round H y5.wf (by simp) ex9
    · exact works_round H y5.wf (by simp) ex10
  refine (word_call H.lex_Word y5.wf ex11 (by simp)).use fun s6 x6' => ?_
  have x6 := y5.trans x6'
  simp [go_sem, tokA, tokC, NO.run, WO.run, wr_tok]
  have x7 := x6.trans (Ext.new x6.wf (.cells 134 true [.int .i64 3, .int .i64 0, .str [97, 98, 99]]))
  have g7 : hget ((s6.nx, AObj.cells 134 true [.int .i64 3, .int .i64 0, .str [97, 98, 99]]) :: s6.h) s6.nx = some (.cells 134 true [.int .i64 3, .int .i64 0, .str [97, 98, 99]]) := by simp [hget_cons]
  generalize hS : (⟨(s6.nx, AObj.cells 134 true [.int .i64 3, .int .i64 0, .str [97, 98, 99]]) :: s6.h, s6.nx + 1⟩ : St) = s7 at x7 ⊢
  rw [show (s6.nx, AObj.cells 134 true [.int .i64 3, .int .i64 0, .str [97, 98, 99]]) :: s6.h = s7.h by rw [← hS]] at g7
  clear hS
  generalize s6.nx = n6 at g7 ⊢
  refine (word_call H.lex_Word x7.wf ex12 (by simp)).use fun s8 x8' => ?_
  have x8 := x7.trans x8'
  have g8 := x8'.get x7.wf g7
  simp [go_sem, tokA, tokC, NO.run, WO.run, wr_tok]
  have z8 := Ext.new x8.wf (.cells 134 true [.int .i64 3, .int .i64 0, .str [49, 97]])
  have x9 := x8.trans z8
  have g9 := z8.get x8.wf g8
  have f9 : hget ((s8.nx, AObj.cells 134 true [.int .i64 3, .int .i64 0, .str [49, 97]]) :: s8.h) s8.nx = some (.cells 134 true [.int .i64 3, .int .i64 0, .str [49, 97]]) := by simp [hget_cons]
  generalize hS : (⟨(s8.nx, AObj.cells 134 true [.int .i64 3, .int .i64 0, .str [49, 97]]) :: s8.h, s8.nx + 1⟩ : St) = s9 at x9 g9 ⊢
  rw [show (s8.nx, AObj.cells 134 true [.int .i64 3, .int .i64 0, .str [49, 97]]) :: s8.h = s9.h by rw [← hS]] at f9
  clear hS
  clear z8
  generalize s8.nx = n8 at f9 ⊢
  refine (word_call H.lex_Word x9.wf ex13 (by simp)).use fun s10 x10' => ?_
  have x10 := x9.trans x10'
  have g10 := x10'.get x9.wf g9
  have f10 := x10'.get x9.wf f9
  simp [go_sem, tokA, tokC, NO.run, WO.run, wr_tok]
  have z10 := Ext.new x10.wf (.cells 134 true [.int .i64 1, .int .i64 12, .str []])
  have x11 := x10.trans z10
  have g11 := z10.get x10.wf g10
  have f11 := z10.get x10.wf f10
  have e11 : hget ((s10.nx, AObj.cells 134 true [.int .i64 1, .int .i64 12, .str []]) :: s10.h) s10.nx = some (.cells 134 true [.int .i64 1, .int .i64 12, .str []]) := by simp [hget_cons]
  generalize hS : (⟨(s10.nx, AObj.cells 134 true [.int .i64 1, .int .i64 12, .str []]) :: s10.h, s10.nx + 1⟩ : St) = s11 at x11 g11 f11 ⊢
  rw [show (s10.nx, AObj.cells 134 true [.int .i64 1, .int .i64 12, .str []]) :: s10.h = s11.h by rw [← hS]] at e11
  clear hS
  clear z10
  generalize s10.nx = n10 at e11 ⊢
  refine (word_call H.lex_Word x11.wf ex14 (by simp)).use fun s12 x12' => ?_
  have x12 := x11.trans x12'
  have g12 := x12'.get x11.wf g11
  have f12 := x12'.get x11.wf f11
  have e12 := x12'.get x11.wf e11
  simp [go_sem, tokA, tokC, NO.run, WO.run, wr_tok]
  have z12 := Ext.new x12.wf (.cells 134 true [.int .i64 0, .int .i64 0, .str []])
  have x13 := x12.trans z12
  have g13 := z12.get x12.wf g12
  have f13 := z12.get x12.wf f12
  have e13 := z12.get x12.wf e12
  generalize hS : (⟨(s12.nx, AObj.cells 134 true [.int .i64 0, .int .i64 0, .str []]) :: s12.h, s12.nx + 1⟩ : St) = s13 at x13 g13 f13 e13 ⊢
  clear hS
  clear z12
  refine (unq_call H.lex_Unquote x13.wf ex15 (by simp)).use fun s14 x14' => ?_
  have x14 := x13.trans x14'
  have g14 := x14'.get x13.wf g13
  have f14 := x14'.get x13.wf f13
  have e14 := x14'.get x13.wf e13
  simp [go_sem]
  refine (unq_call H.lex_Unquote x14.wf ex16 (by simp)).use fun s15 x15' => ?_
  have x15 := x14.trans x15'
  have g15 := x15'.get x14.wf g14
  have f15 := x15'.get x14.wf f14
  have e15 := x15'.get x14.wf e14
  simp [go_sem]
  refine (unq_call H.lex_Unquote x15.wf ex17 (by simp)).use fun s16 x16' => ?_
  have x16 := x15.trans x16'
  have g16 := (tok2 (x16'.get x15.wf g15)).2
  have f16 := (tok2 (x16'.get x15.wf f15)).2
  have e16 := (tok2 (x16'.get x15.wf e15)).1
  simp [go_sem, RO.run, g16, f16, e16, seq8_eq]
  refine (quo_call H.lex_Quote x16.wf ex18 (by simp)).use fun s17 x17' => ?_
  have x17 := x16.trans x17'
  simp [go_sem, seq8_eq]
  refine (chk_call H.lex_Check x17.wf ex19 (by simp)).use fun s18 x18' => ?_
  have x18 := x17.trans x18'
  simp [go_sem]
  refine (chk_call H.lex_Check x18.wf ex20 (by simp)).use fun s19 x19' => ?_
  have x19 := x18.trans x19'
  simp [go_sem]
  refine (chk_call H.lex_Check x19.wf ex21 (by simp)).use fun s20 x20' => ?_
  simp [go_sem]
  exact x19.trans x20'
end Go.Ev

/- LexKnown told. -/
namespace Go.Ev
open Go
set_option linter.unusedSimpArgs false
set_option linter.unusedSectionVars false
set_option linter.unusedVariables false

variable {T : Tab} {st : St}

def zeros : List UInt8 := Lib.repeatL [48] 39
theorem kn1 : numT (48 :: (zeros ++ [55])) = (0, 0, 26) := by kernel_rfl
theorem kn2 : numT (48 :: 46 :: (zeros ++ [55])) = (0, 0, 26) := by kernel_rfl
theorem kn3 : numT (48 :: 46 :: 120 :: (zeros ++ [55])) = (0, 0, 5) := by kernel_rfl
theorem kn4 : wordT (Lib.repeatL [120] 100) = (3, 0, Lib.repeatL [120] 100, 0) := by kernel_rfl
theorem kn4l : (Lib.repeatL ([120] : List UInt8) 100).length = 100 := by kernel_rfl
theorem kn5 : wordT (Lib.repeatL [120] 101) = (0, 0, [], 26) := by kernel_rfl
theorem kn6 : unquoteT (40 :: (Lib.repeatL [97] 1000 ++ [41])) = (Lib.repeatL [97] 1000, 1002, 0) := by kernel_rfl
theorem kn6l : (Lib.repeatL ([97] : List UInt8) 1000).length = 1000 := by kernel_rfl
theorem kn7 : unquoteT (40 :: (Lib.repeatL [97] 1001 ++ [41])) = ([], 0, 26) := by kernel_rfl
theorem kn7l : (Lib.repeatL ([97] : List UInt8) 1001).length = 1001 := by kernel_rfl
theorem kn8 : unquoteT [] = ([], 0, 5) := by kernel_rfl
theorem kn9 : unquoteT [40, 97, 92] = ([], 0, 5) := by kernel_rfl
theorem kn10 : numT (zeros ++ [55]) = (1, 7, 0) := by kernel_rfl
theorem kn11 : numT [45, 50, 49, 52, 55, 52, 56, 51, 54, 52, 56] = (1, -2147483648, 0) := by kernel_rfl
theorem kn12 : numT [43, 53] = (1, 5, 0) := by kernel_rfl
theorem kn13 : numT [45, 46, 53, 101, 49] = (2, -327680, 0) := by kernel_rfl
theorem kn14 : numT [51, 54, 35, 122, 105, 107, 48, 122, 106] = (1, 2147483647, 0) := by kernel_rfl
theorem kn20 : unquoteT [40, 97, 13, 98, 13, 10, 99, 10, 100, 41] = ([97, 10, 98, 10, 99, 10, 100], 10, 0) := by kernel_rfl
theorem kn21 : unquoteT [40, 97, 92, 13, 10, 98, 92, 13, 99, 92, 10, 100, 41] = ([97, 98, 99, 100], 13, 0) := by kernel_rfl
theorem kn22 : unquoteT [40, 92, 52, 48, 48, 92, 55, 92, 55, 56, 41] = ([0, 7, 7, 56], 11, 0) := by kernel_rfl
theorem kn23 : unquoteT [40, 92, 114, 92, 116, 92, 98, 92, 102, 92, 41, 92, 40, 92, 92, 92, 113, 41] = ([13, 9, 8, 12, 41, 40, 92, 113], 18, 0) := by kernel_rfl
theorem kn24 : unquoteT [40, 41] = ([], 2, 0) := by kernel_rfl
theorem kt0 : rightT 0 0 [] = false := by kernel_rfl
theorem kt1 : rightT 9 0 [] = false := by kernel_rfl
theorem kt2 : rightT 3 0 [] = false := by kernel_rfl
theorem kt3 : rightT 3 0 [97, 32, 98] = false := by kernel_rfl
theorem kt4 : rightT 1 2147483648 [] = false := by kernel_rfl
theorem kt5 : rightT 2 2147483649 [] = false := by kernel_rfl
theorem kt6 : rightT 7 0 [123] = false := by kernel_rfl
theorem kt7 : rightT 4 0 [91] = false := by kernel_rfl
theorem kt8 : rightT 6 1 [] = false := by kernel_rfl
theorem kt9 : rightT 3 0 [49, 101, 57] = false := by kernel_rfl

theorem zl : zeros.length = 39 := by kernel_rfl

theorem rep_call (H : B.H_strings_Repeat T) {s : List UInt8} {n : Int} (h0 : 0 ≤ n) (h1 : n ≤ 9223372036854775807) (h2 : s.length * n.toNat ≤ 140737488355328) : call T (.fn 13 [] []) [.str s, .int .i64 n] st = some (.str (Lib.repeatL s n.toNat), st) := by
  rw [call_entry H.en]
  simp only [B.E_strings_Repeat, repeatE, List.nil_append, List.append_nil]
  rw [if_pos ⟨h0, h1, h2⟩]

theorem known_round (H : B.H_chaselaw03_LexKnown T) (hwf : st.Wf) {e : Env} {s t : List UInt8} (hs : s.length < 1000000000000) (h : unquoteT s = (t, s.length, 0)) :
    Round T 159 160 161 [B.p 162 (.extr 0 161), B.p 163 (.extr 1 161), B.p 25 (.mov 162), B.p 26 (.mov 163)] [158, 24] B.chaselaw03_LexKnown_l0 e st (.str s) (.str t) := by
  unfold Round
  simp [go_sem, B.chaselaw03_LexKnown_l0]
  refine (unq_call H.lex_Unquote hwf h hs).use fun s1 x1 => ?_
  simp [go_sem, seq8_eq]
  refine ⟨?_, x1.kept hwf⟩
  intro r hr
  simp at hr
  rcases hr with rfl | rfl <;> simp [go_sem]

def badToks : List (Int × Int × List UInt8) := [(0, 0, []), (9, 0, []), (3, 0, []), (3, 0, [97, 32, 98]), (1, 2147483648, []), (2, 2147483649, []), (7, 0, [123]), (4, 0, [91]), (6, 1, []), (3, 0, [49, 101, 57])]
theorem bad_all : ∀ t ∈ badToks, rightT t.1 t.2.1 t.2.2 = false ∧ t.2.2.length < 100 := by
  intro t ht
  have h : badToks.all (fun t => !rightT t.1 t.2.1 t.2.2 && decide (t.2.2.length < 100)) = true := by kernel_rfl
  have := List.all_eq_true.1 h t ht
  simpa using this
def toksC (l : List (Int × Int × List UInt8)) : List AV := l.flatMap fun t => tokC t.1 t.2.1 t.2.2
theorem toksC_at : ∀ {l : List (Int × Int × List UInt8)} {i : Nat} {t : Int × Int × List UInt8}, l[i]? = some t → ((toksC l).drop (3 * i)).take 3 = tokC t.1 t.2.1 t.2.2 ∧ 3 * i + 3 ≤ (toksC l).length
  | [], i, t, h => by cases i <;> cases h
  | a :: l, 0, t, h => by
    simp at h; subst h
    simp [toksC, tokC]
  | a :: l, i + 1, t, h => by
    simp only [List.getElem?_cons_succ] at h
    obtain ⟨h1, h2⟩ := toksC_at h
    have e : toksC (a :: l) = tokC a.1 a.2.1 a.2.2 ++ toksC l := by simp [toksC]
    have e3 : (tokC a.1 a.2.1 a.2.2).length = 3 := rfl
    rw [e]
    refine ⟨?_, by rw [List.length_append, e3]; omega⟩
    rw [show 3 * (i + 1) = (tokC a.1 a.2.1 a.2.2).length + 3 * i by rw [e3]; omega, List.drop_append, List.drop_of_length_le (by omega), List.nil_append]
    rw [show (tokC a.1 a.2.1 a.2.2).length + 3 * i - (tokC a.1 a.2.1 a.2.2).length = 3 * i by omega]
    exact h1

theorem known_loop (H : B.H_chaselaw03_LexKnown T) {st0 : St} {ty n : Nat} {b : Bool} : ∀ (m i : Nat) (e : Env) (st1 : St), i + m = 10 → Ext st0 st1 → hget st1.h n = some (.cells ty false (toksC badToks)) → eget e 24 = .bool b → eget e 193 = .slice n 0 10 (.known 10) → eget e 194 = .int .i64 10 → eget e 195 = .int .i64 i →
    Res (run T (.loop B.chaselaw03_LexKnown_l1) e st1) fun x e' s' => x = .exit 2 ∧ Ext st0 s' ∧ eget e' 24 = .bool b := by
  intro m
  induction m with
  | zero =>
    intro i e st1 hi hx hg g24 g193 g194 g195
    have : i = 10 := by omega
    subst this
    rw [run_loop]
    simp [B.chaselaw03_LexKnown_l1, go_sem, g24, g193, g194, g195, hx]
  | succ m ih =>
    intro i e st1 hi hx hg g24 g193 g194 g195
    have hi10 : (i : Int) < 10 := by omega
    have hi10' : i < 10 := by omega
    have hlen : badToks.length = 10 := rfl
    obtain ⟨t, ht⟩ : ∃ t, badToks[i]? = some t := ⟨badToks[i]'(by omega), List.getElem?_eq_getElem _⟩
    obtain ⟨h1, h2⟩ := toksC_at ht
    obtain ⟨b1, b2⟩ := bad_all t (List.mem_of_getElem? ht)
    have hrd : rdCells st1.h n (i * 3) 3 = some [.int .i64 t.1, .int .i64 t.2.1, .str t.2.2] := by
      rw [rd_part hg (by rw [Nat.mul_comm]; exact h2), Nat.mul_comm, h1]; rfl
    have x1 := hx.trans (Ext.new hx.wf (.cells 134 true [.int .i64 t.1, .int .i64 t.2.1, .str t.2.2]))
    have g1 := (Ext.new hx.wf (.cells 134 true [.int .i64 t.1, .int .i64 t.2.1, .str t.2.2])).get hx.wf hg
    rw [run_loop]
    simp [B.chaselaw03_LexKnown_l1, go_sem, g24, g193, g194, g195, hi10, hi10', RO.run, NO.run, WO.run, hrd, wr_tok, rd_tok]
    refine (chk_call H.lex_Check x1.wf b1 (by omega)).use fun s2 x2' => ?_
    have x2 := x1.trans x2'
    have g2 := x2'.get x1.wf g1
    simp [go_sem]
    refine ih (i + 1) _ s2 (by omega) x2 g2 ?_ ?_ ?_ ?_
    · simp [go_sem]
    · simp [go_sem]
    · simp [go_sem]
    · simp [go_sem]; exact wrap64' (by omega) (by omega)

theorem known_tells (H : B.H_chaselaw03_LexKnown T) (hwf : st.Wf) : Tells T st (.fn 61 [] []) [] (.bool true) := by
  refine tells_of H.e H.f rfl ?_
  simp [B.chaselaw03_LexKnown, go_sem]
  refine (works_tells H.chaselaw03_works hwf).use fun s1 x1 => ?_
  have rp := fun (st : St) (s : List UInt8) (n : Int) h0 h1 h2 => rep_call (st := st) H.strings_Repeat (s := s) (n := n) h0 h1 h2
  simp [go_sem]
  rw [rp _ _ _ (by simp) (by simp) (by simp)]
  have k1 := kn1
  have k2 := kn2
  have k3 := kn3
  have k10 := kn10
  simp [go_sem]
  rw [show Lib.repeatL ([48] : List UInt8) 39 = zeros from rfl]
  have hL : (zeros ++ [55]).length = 40 := by rw [List.length_append, zl]; rfl
  rw [zl]
  generalize zeros ++ [55] = L at k1 k2 k3 k10 hL ⊢
  simp [go_sem, hL]
  refine (num_call H.lex_Number x1.wf k1 (by simp [hL])).use fun s2 x2' => ?_
  have x2 := x1.trans x2'
  simp [go_sem, hL, tokA, tokC, NO.run, WO.run, wr_tok]
  have y2 := x2.trans (Ext.new x2.wf (.cells 134 true [.int .i64 0, .int .i64 0, .str []]))
  refine (num_call H.lex_Number y2.wf k2 (by simp [hL])).use fun s3 x3' => ?_
  have x3 := y2.trans x3'
  simp [go_sem, hL, tokA, tokC, NO.run, WO.run, wr_tok]
  have y3 := x3.trans (Ext.new x3.wf (.cells 134 true [.int .i64 0, .int .i64 0, .str []]))
  refine (num_call H.lex_Number y3.wf k3 (by simp [hL])).use fun s4 x4' => ?_
  have x4 := y3.trans x4'
  simp [go_sem, hL, tokA, tokC, NO.run, WO.run, wr_tok]
  have y4 := x4.trans (Ext.new x4.wf (.cells 134 true [.int .i64 0, .int .i64 0, .str []]))
  rw [rp _ _ _ (by simp) (by simp) (by simp)]
  simp [go_sem]
  refine (word_call H.lex_Word y4.wf kn4 (by rw [kn4l]; simp)).use fun s5 x5' => ?_
  have x5 := y4.trans x5'
  have k4l := kn4l
  generalize Lib.repeatL ([120] : List UInt8) 100 = A at k4l ⊢
  simp [go_sem, tokA, tokC, NO.run, WO.run, wr_tok]
  have z5 := Ext.new x5.wf (.cells 134 true [.int .i64 3, .int .i64 0, .str A])
  have y5 := x5.trans z5
  have g5 : hget ((s5.nx, AObj.cells 134 true [.int .i64 3, .int .i64 0, .str A]) :: s5.h) s5.nx = some (.cells 134 true [.int .i64 3, .int .i64 0, .str A]) := by simp [hget_cons]
  generalize hS : (⟨(s5.nx, AObj.cells 134 true [.int .i64 3, .int .i64 0, .str A]) :: s5.h, s5.nx + 1⟩ : St) = s6 at y5 ⊢
  rw [show (s5.nx, AObj.cells 134 true [.int .i64 3, .int .i64 0, .str A]) :: s5.h = s6.h by rw [← hS]] at g5
  clear hS z5
  generalize s5.nx = n5 at g5 ⊢
  rw [rp _ _ _ (by simp) (by simp) (by simp)]
  simp [go_sem]
  refine (word_call H.lex_Word y5.wf kn5 (by rw [show (Lib.repeatL ([120] : List UInt8) 101).length = 101 by kernel_rfl]; simp)).use fun s7 x7' => ?_
  have x7 := y5.trans x7'
  have g7 := x7'.get y5.wf g5
  simp [go_sem, tokA, tokC, NO.run, WO.run, wr_tok]
  have z7 := Ext.new x7.wf (.cells 134 true [.int .i64 0, .int .i64 0, .str []])
  have y7 := x7.trans z7
  have g8 := z7.get x7.wf g7
  generalize hS : (⟨(s7.nx, AObj.cells 134 true [.int .i64 0, .int .i64 0, .str []]) :: s7.h, s7.nx + 1⟩ : St) = s8 at y7 g8 ⊢
  clear hS z7
  rw [rp _ _ _ (by simp) (by simp) (by simp)]
  have k6 := kn6
  have k6l := kn6l
  have k7 := kn7
  have k7l := kn7l
  simp [go_sem]
  generalize Lib.repeatL ([97] : List UInt8) 1000 = AA at k6 k6l ⊢
  simp [go_sem, k6l]
  refine (unq_call H.lex_Unquote y7.wf k6 (by simp [k6l])).use fun s9 x9' => ?_
  have x9 := y7.trans x9'
  have g9 := x9'.get y7.wf g8
  simp [go_sem]
  rw [rp _ _ _ (by simp) (by simp) (by simp)]
  simp [go_sem]
  generalize Lib.repeatL ([97] : List UInt8) 1001 = AB at k7 k7l ⊢
  simp [go_sem, k7l]
  refine (unq_call H.lex_Unquote x9.wf k7 (by simp [k7l])).use fun s10 x10' => ?_
  have x10 := x9.trans x10'
  have g10 := x10'.get x9.wf g9
  simp [go_sem]
  refine (unq_call H.lex_Unquote x10.wf kn8 (by simp)).use fun s11 x11' => ?_
  have x11 := x10.trans x11'
  have g11 := x11'.get x10.wf g10
  simp [go_sem]
  refine (unq_call H.lex_Unquote x11.wf kn9 (by simp)).use fun s12 x12' => ?_
  have x12 := x11.trans x12'
  have g12 := x12'.get x11.wf g11
  simp [go_sem]
  refine (number73_tells H.chaselaw03_number x12.wf (by simp [hL])).use fun s13 x13' => ?_
  have x13 := x12.trans x13'
  have g13 := x13'.get x12.wf g12
  simp [go_sem, k10, isT]
  refine (number73_tells H.chaselaw03_number x13.wf (by simp)).use fun s14 x14' => ?_
  have x14 := x13.trans x14'
  have g14 := x14'.get x13.wf g13
  simp [go_sem, kn11, isT]
  refine (number73_tells H.chaselaw03_number x14.wf (by simp)).use fun s15 x15' => ?_
  have x15 := x14.trans x15'
  have g15 := x15'.get x14.wf g14
  simp [go_sem, kn12, isT]
  refine (number73_tells H.chaselaw03_number x15.wf (by simp)).use fun s16 x16' => ?_
  have x16 := x15.trans x16'
  have g16 := x16'.get x15.wf g15
  simp [go_sem, kn13, isT]
  refine (number73_tells H.chaselaw03_number x16.wf (by simp)).use fun s17 x17' => ?_
  have x17 := x16.trans x17'
  have g17 := (tok2 (x17'.get x16.wf g16)).2
  simp [go_sem, kn14, isT, RO.run, g17, k4l, k6l]
  refine res_rangeMap ?_
  simp [go_sem, NO.run, WO.run, hget_cons, hset_cons, mins, cellEqK, seq8]
  generalize hm : AObj.map _ = M
  have y18 : Ext st ⟨hdel ((s17.nx, M) :: s17.h) s17.nx, s17.nx + 1 + 1⟩ := by
    have a := x17.trans (Ext.new x17.wf M)
    have b := a.trans (Ext.aside a.wf 1)
    exact b.frm (Frm.hdel b.wf s17.nx) (by simpa using x17.nx)
  clear hm
  generalize hS : (⟨hdel ((s17.nx, M) :: s17.h) s17.nx, s17.nx + 1 + 1⟩ : St) = s18 at y18 ⊢
  rw [show hdel ((s17.nx, M) :: s17.h) s17.nx = s18.h by rw [← hS], show s17.nx + 1 + 1 = s18.nx by rw [← hS]]
  clear hS
  refine ⟨?_, ?_⟩
  · rintro a b (⟨rfl, rfl⟩ | ⟨rfl, rfl⟩ | ⟨rfl, rfl⟩ | ⟨rfl, rfl⟩ | ⟨rfl, rfl⟩)
    · exact known_round H y18.wf (by simp) kn20
    · exact known_round H y18.wf (by simp) kn21
    · exact known_round H y18.wf (by simp) kn22
    · exact known_round H y18.wf (by simp) kn23
    · exact known_round H y18.wf (by simp) kn24
  have x19 := y18.trans (Ext.new y18.wf (.cells 134 false (toksC badToks)))
  have hcs : toksC badToks = [.int .i64 0, .int .i64 0, .str [], .int .i64 9, .int .i64 0, .str [], .int .i64 3, .int .i64 0, .str [], .int .i64 3, .int .i64 0, .str [97, 32, 98], .int .i64 1, .int .i64 2147483648, .str [], .int .i64 2, .int .i64 2147483649, .str [], .int .i64 7, .int .i64 0, .str [123], .int .i64 4, .int .i64 0, .str [91], .int .i64 6, .int .i64 1, .str [], .int .i64 3, .int .i64 0, .str [49, 101, 57]] := rfl
  rw [← hcs]
  refine (known_loop H (b := true) (n := s18.nx) (ty := 134) 10 0 _ _ (by omega) x19 (by simp [hget_cons]) (by simp [go_sem]) (by simp [go_sem]) (by simp [go_sem]) (by simp [go_sem])).mono ?_
  rintro x e s19 ⟨rfl, x20, g24⟩
  simp [go_sem, g24]
  refine (works_tells H.chaselaw03_works x20.wf).use fun s20 x21 => ?_
  simp [go_sem]
  exact x20.trans x21
end Go.Ev

/- The functions that the law LexKnown reaches: their numbers, and the check of each body, printed by a program of this work. -/
namespace Go.Ev.LexKnown
open Go Go.Proofs Go.Ev
def phiT : NT := (.node (.node (.node (.node (.node (.node .nil 13 18 .nil) 61 6 (.node .nil 62 7 .nil)) 63 8 (.node (.node .nil 65 10 .nil) 67 12 .nil)) 69 14 (.node (.node (.node 
  .nil 71 16 .nil) 73 19 (.node .nil 74 20 .nil)) 75 21 (.node (.node .nil 76 22 .nil) 77 23 .nil))) 82 28 (.node (.node (.node (.node .nil 84 30 .nil) 86 32 (.node .nil 87 33 .nil)) 
  91 37 (.node (.node .nil 92 38 .nil) 93 44 .nil)) 94 40 (.node (.node (.node .nil 95 45 .nil) 96 46 (.node .nil 97 47 .nil)) 98 48 (.node (.node .nil 99 49 .nil) 100 50 .nil)))) 106 
  57 (.node (.node (.node (.node (.node .nil 107 58 .nil) 109 60 (.node .nil 110 65 .nil)) 111 66 (.node (.node .nil 112 67 .nil) 113 70 .nil)) 114 71 (.node (.node (.node .nil 115 72 
  .nil) 116 73 (.node .nil 117 75 .nil)) 118 76 (.node (.node .nil 119 78 .nil) 120 85 .nil))) 121 86 (.node (.node (.node (.node .nil 122 79 .nil) 123 63 (.node .nil 140 68 .nil)) 141 
  69 (.node (.node .nil 142 80 .nil) 143 81 .nil)) 144 82 (.node (.node (.node .nil 145 83 .nil) 146 84 .nil) 147 90 (.node (.node .nil 148 88 .nil) 149 87 .nil)))))
def tauT : NT := (.node (.node (.node (.node (.node (.node (.node (.node .nil 0 0 .nil) 1 1 .nil) 2 2 (.node .nil 3 3 .nil)) 4 4 (.node (.node .nil 5 5 .nil) 6 6 (.node .nil 7 7 .nil))) 
  8 8 (.node (.node (.node (.node .nil 9 9 .nil) 10 10 .nil) 11 11 (.node .nil 12 12 .nil)) 13 13 (.node (.node .nil 14 14 .nil) 15 15 (.node .nil 16 16 .nil)))) 17 17 (.node (.node (.node 
  (.node (.node .nil 18 18 .nil) 19 19 .nil) 20 20 (.node .nil 21 21 .nil)) 25 23 (.node (.node .nil 27 80 .nil) 28 72 (.node .nil 30 27 .nil))) 35 22 (.node (.node (.node .nil 37 33 
  .nil) 42 37 (.node .nil 43 76 .nil)) 44 24 (.node (.node .nil 45 49 .nil) 48 124 (.node .nil 79 73 .nil))))) 80 74 (.node (.node (.node (.node (.node (.node .nil 81 75 .nil) 82 66 .nil) 
  83 67 (.node .nil 84 68 .nil)) 85 77 (.node (.node .nil 86 69 .nil) 87 70 (.node .nil 88 78 .nil))) 89 79 (.node (.node (.node (.node .nil 102 93 .nil) 103 94 .nil) 104 95 (.node .nil 
  105 96 .nil)) 106 97 (.node (.node .nil 107 98 .nil) 108 92 (.node .nil 110 90 .nil)))) 114 115 (.node (.node (.node (.node (.node .nil 115 116 .nil) 116 117 .nil) 120 89 (.node .nil 
  121 128 .nil)) 122 129 (.node (.node .nil 123 130 .nil) 124 131 (.node .nil 125 132 .nil))) 126 133 (.node (.node (.node .nil 127 134 .nil) 128 135 (.node .nil 129 136 .nil)) 130 137 
  (.node (.node .nil 131 138 .nil) 132 139 (.node .nil 133 25 .nil)))))) 134 26 (.node (.node (.node (.node (.node (.node (.node .nil 135 28 .nil) 136 29 .nil) 137 30 (.node .nil 138 
  31 .nil)) 139 32 (.node (.node .nil 140 34 .nil) 141 35 (.node .nil 142 36 .nil))) 143 38 (.node (.node (.node (.node .nil 144 39 .nil) 145 40 .nil) 146 41 (.node .nil 147 42 .nil)) 
  148 43 (.node (.node .nil 149 44 .nil) 150 45 (.node .nil 151 46 .nil)))) 152 47 (.node (.node (.node (.node (.node .nil 153 48 .nil) 154 50 .nil) 155 51 (.node .nil 156 52 .nil)) 157 
  53 (.node (.node .nil 158 54 .nil) 159 55 (.node .nil 160 56 .nil))) 161 57 (.node (.node (.node .nil 162 58 .nil) 163 59 (.node .nil 164 60 .nil)) 165 61 (.node (.node .nil 166 62 
  .nil) 167 63 (.node .nil 168 64 .nil))))) 169 65 (.node (.node (.node (.node (.node (.node .nil 170 71 .nil) 171 81 .nil) 172 82 (.node .nil 173 83 .nil)) 174 84 (.node (.node .nil 
  175 85 .nil) 176 86 (.node .nil 177 87 .nil))) 178 88 (.node (.node (.node (.node .nil 179 91 .nil) 180 99 .nil) 181 100 (.node .nil 182 101 .nil)) 183 102 (.node (.node .nil 184 103 
  .nil) 185 105 (.node .nil 186 106 .nil)))) 187 107 (.node (.node (.node (.node (.node .nil 188 108 .nil) 189 109 .nil) 190 110 (.node .nil 191 111 .nil)) 192 112 (.node (.node .nil 
  193 113 .nil) 194 114 (.node .nil 195 118 .nil))) 196 119 (.node (.node (.node .nil 197 120 .nil) 198 121 (.node .nil 199 122 .nil)) 200 123 (.node (.node .nil 201 125 .nil) 202 126 
  (.node .nil 203 127 .nil)))))))
def gamT : NT := (.node .nil 0 0 .nil)
noncomputable def cx : Cx := ⟨Try.prog, phiT.get, tauT.get, gamT.get⟩
theorem k_chaselaw03_LexKnown : FnOK cx 61 B.chaselaw03_LexKnown := fnOK_of (by kernel_rfl) Try.func6 (by kernel_rfl)
theorem k_chaselaw03_works : FnOK cx 62 B.chaselaw03_works := fnOK_of (by kernel_rfl) Try.func7 (by kernel_rfl)
theorem k_lex_Number : FnOK cx 63 B.lex_Number := fnOK_of (by kernel_rfl) Try.func8 (by kernel_rfl)
theorem k_lex_Word : FnOK cx 65 B.lex_Word := fnOK_of (by kernel_rfl) Try.func10 (by kernel_rfl)
theorem k_lex_Regular : FnOK cx 67 B.lex_Regular := fnOK_of (by kernel_rfl) Try.func12 (by kernel_rfl)
theorem k_lex_Unquote : FnOK cx 69 B.lex_Unquote := fnOK_of (by kernel_rfl) Try.func14 (by kernel_rfl)
theorem k_lex_Quote : FnOK cx 71 B.lex_Quote := fnOK_of (by kernel_rfl) Try.func16 (by kernel_rfl)
theorem k_chaselaw03_number : FnOK cx 73 B.chaselaw03_number := fnOK_of (by kernel_rfl) Try.func19 (by kernel_rfl)
theorem k_lex_Check : FnOK cx 74 B.lex_Check := fnOK_of (by kernel_rfl) Try.func20 (by kernel_rfl)
theorem k_lex_numeral_whole : FnOK cx 75 B.lex_numeral_whole := fnOK_of (by kernel_rfl) Try.func21 (by kernel_rfl)
theorem k_lex_numeral_radix : FnOK cx 76 B.lex_numeral_radix := fnOK_of (by kernel_rfl) Try.func22 (by kernel_rfl)
theorem k_lex_numeral_decimal : FnOK cx 77 B.lex_numeral_decimal := fnOK_of (by kernel_rfl) Try.func23 (by kernel_rfl)
theorem k_lex_regular : FnOK cx 82 B.lex_regular := fnOK_of (by kernel_rfl) Try.func28 (by kernel_rfl)
theorem k_lex_quoted_next : FnOK cx 86 B.lex_quoted_next := fnOK_of (by kernel_rfl) Try.func32 (by kernel_rfl)
theorem k_lex_quoted_run : FnOK cx 87 B.lex_quoted_run := fnOK_of (by kernel_rfl) Try.func33 (by kernel_rfl)
theorem k_strings_Builder_WriteByte : FnOK cx 91 B.strings_Builder_WriteByte := fnOK_of (by kernel_rfl) Try.func37 (by kernel_rfl)
theorem k_strings_Builder_String : FnOK cx 92 B.strings_Builder_String := fnOK_of (by kernel_rfl) Try.func38 (by kernel_rfl)
theorem k_lex_right : FnOK cx 93 B.lex_right := fnOK_of (by kernel_rfl) Try.func44 (by kernel_rfl)
theorem k_strings_HasPrefix : FnOK cx 94 B.strings_HasPrefix := fnOK_of (by kernel_rfl) Try.func40 (by kernel_rfl)
theorem k_lex_count : FnOK cx 95 B.lex_count := fnOK_of (by kernel_rfl) Try.func45 (by kernel_rfl)
theorem k_lex_numeral_answer : FnOK cx 96 B.lex_numeral_answer := fnOK_of (by kernel_rfl) Try.func46 (by kernel_rfl)
theorem k_strings_Cut : FnOK cx 97 B.strings_Cut := fnOK_of (by kernel_rfl) Try.func47 (by kernel_rfl)
theorem k_strings_ContainsAny : FnOK cx 98 B.strings_ContainsAny := fnOK_of (by kernel_rfl) Try.func48 (by kernel_rfl)
theorem k_lex_pattern : FnOK cx 99 B.lex_pattern := fnOK_of (by kernel_rfl) Try.func49 (by kernel_rfl)
theorem k_real_Parse : FnOK cx 100 B.real_Parse := fnOK_of (by kernel_rfl) Try.func50 (by kernel_rfl)
theorem k_lex_quoted_escape : FnOK cx 106 B.lex_quoted_escape := fnOK_of (by kernel_rfl) Try.func57 (by kernel_rfl)
theorem k_lex_quoted_line : FnOK cx 107 B.lex_quoted_line := fnOK_of (by kernel_rfl) Try.func58 (by kernel_rfl)
theorem k_strings_Builder_copyCheck : FnOK cx 109 B.strings_Builder_copyCheck := fnOK_of (by kernel_rfl) Try.func60 (by kernel_rfl)
theorem k_real_Is : FnOK cx 110 B.real_Is := fnOK_of (by kernel_rfl) Try.func65 (by kernel_rfl)
theorem k_lex_named : FnOK cx 111 B.lex_named := fnOK_of (by kernel_rfl) Try.func66 (by kernel_rfl)
theorem k_lex_digits : FnOK cx 112 B.lex_digits := fnOK_of (by kernel_rfl) Try.func67 (by kernel_rfl)
theorem k_real_scanner_decimal : FnOK cx 113 B.real_scanner_decimal := fnOK_of (by kernel_rfl) Try.func70 (by kernel_rfl)
theorem k_real_front : FnOK cx 114 B.real_front := fnOK_of (by kernel_rfl) Try.func71 (by kernel_rfl)
theorem k_real_fraction : FnOK cx 115 B.real_fraction := fnOK_of (by kernel_rfl) Try.func72 (by kernel_rfl)
theorem k_real_double : FnOK cx 116 B.real_double := fnOK_of (by kernel_rfl) Try.func73 (by kernel_rfl)
theorem k_lex_letters : FnOK cx 117 B.lex_letters := fnOK_of (by kernel_rfl) Try.func75 (by kernel_rfl)
theorem k_lex_digits_1 : FnOK cx 119 B.lex_digits_1 := fnOK_of (by kernel_rfl) Try.func78 (by kernel_rfl)
theorem k_real_scanner_one : FnOK cx 120 B.real_scanner_one := fnOK_of (by kernel_rfl) Try.func85 (by kernel_rfl)
theorem k_real_scanner_digits : FnOK cx 121 B.real_scanner_digits := fnOK_of (by kernel_rfl) Try.func86 (by kernel_rfl)
theorem k_lex_value : FnOK cx 122 B.lex_value := fnOK_of (by kernel_rfl) Try.func79 (by kernel_rfl)
theorem k_stringslite_HasPrefix : FnOK cx 123 B.stringslite_HasPrefix := fnOK_of (by kernel_rfl) Try.func63 (by kernel_rfl)
theorem k_stringslite_Cut : FnOK cx 140 B.stringslite_Cut := fnOK_of (by kernel_rfl) Try.func68 (by kernel_rfl)
theorem k_strings_IndexAny : FnOK cx 141 B.strings_IndexAny := fnOK_of (by kernel_rfl) Try.func69 (by kernel_rfl)
theorem k_strings_IndexRune : FnOK cx 143 B.strings_IndexRune := fnOK_of (by kernel_rfl) Try.func81 (by kernel_rfl)
theorem k_strings_shouldUseASCIISet : FnOK cx 144 B.strings_shouldUseASCIISet := fnOK_of (by kernel_rfl) Try.func82 (by kernel_rfl)
theorem k_strings_makeASCIISet : FnOK cx 145 B.strings_makeASCIISet := fnOK_of (by kernel_rfl) Try.func83 (by kernel_rfl)
theorem k_strings_asciiSet_contains : FnOK cx 146 B.strings_asciiSet_contains := fnOK_of (by kernel_rfl) Try.func84 (by kernel_rfl)
theorem k_unicode_utf8_ValidRune : FnOK cx 147 B.unicode_utf8_ValidRune := fnOK_of (by kernel_rfl) Try.func90 (by kernel_rfl)
theorem k_bytealg_Cutover : FnOK cx 148 B.bytealg_Cutover := fnOK_of (by kernel_rfl) Try.func88 (by kernel_rfl)
def fnT : FT := (.node (.node (.node (.node (.node (.node .nil 61 B.chaselaw03_LexKnown .nil) 62 B.chaselaw03_works (.node .nil 63 B.lex_Number .nil)) 65 B.lex_Word (.node (.node .nil 
  67 B.lex_Regular .nil) 69 B.lex_Unquote .nil)) 71 B.lex_Quote (.node (.node (.node .nil 73 B.chaselaw03_number .nil) 74 B.lex_Check .nil) 75 B.lex_numeral_whole (.node (.node .nil 76 
  B.lex_numeral_radix .nil) 77 B.lex_numeral_decimal .nil))) 82 B.lex_regular (.node (.node (.node (.node .nil 86 B.lex_quoted_next .nil) 87 B.lex_quoted_run .nil) 91 B.strings_Builder_WriteByte 
  (.node (.node .nil 92 B.strings_Builder_String .nil) 93 B.lex_right .nil)) 94 B.strings_HasPrefix (.node (.node (.node .nil 95 B.lex_count .nil) 96 B.lex_numeral_answer .nil) 97 B.strings_Cut 
  (.node (.node .nil 98 B.strings_ContainsAny .nil) 99 B.lex_pattern .nil)))) 100 B.real_Parse (.node (.node (.node (.node (.node .nil 106 B.lex_quoted_escape .nil) 107 B.lex_quoted_line 
  (.node .nil 109 B.strings_Builder_copyCheck .nil)) 110 B.real_Is (.node (.node .nil 111 B.lex_named .nil) 112 B.lex_digits .nil)) 113 B.real_scanner_decimal (.node (.node (.node .nil 
  114 B.real_front .nil) 115 B.real_fraction .nil) 116 B.real_double (.node (.node .nil 117 B.lex_letters .nil) 119 B.lex_digits_1 .nil))) 120 B.real_scanner_one (.node (.node (.node 
  (.node .nil 121 B.real_scanner_digits .nil) 122 B.lex_value .nil) 123 B.stringslite_HasPrefix (.node (.node .nil 140 B.stringslite_Cut .nil) 141 B.strings_IndexAny .nil)) 143 B.strings_IndexRune 
  (.node (.node (.node .nil 144 B.strings_shouldUseASCIISet .nil) 145 B.strings_makeASCIISet .nil) 146 B.strings_asciiSet_contains (.node (.node .nil 147 B.unicode_utf8_ValidRune .nil) 
  148 B.bytealg_Cutover .nil)))))
theorem fnT_all : fnT.All (FnOK cx) := ⟨⟨⟨⟨⟨⟨trivial, k_chaselaw03_LexKnown, trivial⟩, k_chaselaw03_works, ⟨trivial, k_lex_Number, trivial⟩⟩, k_lex_Word, ⟨⟨trivial, k_lex_Regular, trivial⟩, 
  k_lex_Unquote, trivial⟩⟩, k_lex_Quote, ⟨⟨⟨trivial, k_chaselaw03_number, trivial⟩, k_lex_Check, trivial⟩, k_lex_numeral_whole, ⟨⟨trivial, k_lex_numeral_radix, trivial⟩, k_lex_numeral_decimal, 
  trivial⟩⟩⟩, k_lex_regular, ⟨⟨⟨⟨trivial, k_lex_quoted_next, trivial⟩, k_lex_quoted_run, trivial⟩, k_strings_Builder_WriteByte, ⟨⟨trivial, k_strings_Builder_String, trivial⟩, k_lex_right, 
  trivial⟩⟩, k_strings_HasPrefix, ⟨⟨⟨trivial, k_lex_count, trivial⟩, k_lex_numeral_answer, trivial⟩, k_strings_Cut, ⟨⟨trivial, k_strings_ContainsAny, trivial⟩, k_lex_pattern, trivial⟩⟩⟩⟩, 
  k_real_Parse, ⟨⟨⟨⟨⟨trivial, k_lex_quoted_escape, trivial⟩, k_lex_quoted_line, ⟨trivial, k_strings_Builder_copyCheck, trivial⟩⟩, k_real_Is, ⟨⟨trivial, k_lex_named, trivial⟩, k_lex_digits, 
  trivial⟩⟩, k_real_scanner_decimal, ⟨⟨⟨trivial, k_real_front, trivial⟩, k_real_fraction, trivial⟩, k_real_double, ⟨⟨trivial, k_lex_letters, trivial⟩, k_lex_digits_1, trivial⟩⟩⟩, k_real_scanner_one, 
  ⟨⟨⟨⟨trivial, k_real_scanner_digits, trivial⟩, k_lex_value, trivial⟩, k_stringslite_HasPrefix, ⟨⟨trivial, k_stringslite_Cut, trivial⟩, k_strings_IndexAny, trivial⟩⟩, k_strings_IndexRune, 
  ⟨⟨⟨trivial, k_strings_shouldUseASCIISet, trivial⟩, k_strings_makeASCIISet, trivial⟩, k_strings_asciiSet_contains, ⟨⟨trivial, k_unicode_utf8_ValidRune, trivial⟩, k_bytealg_Cutover, trivial⟩⟩⟩⟩⟩
def enT : Nat → Option Entry := fun k => if k = 13 then some B.E_strings_Repeat else if k = 84 then some B.E_strings_IndexByte else if k = 118 then some B.E_abi_NoEscape else if k = 142 then some B.E_stringslite_Index else none
def tab : Tab := ⟨fnT.get, enT⟩
theorem has_strings_Repeat : B.H_strings_Repeat tab := ⟨rfl⟩
theorem has_strings_IndexByte : B.H_strings_IndexByte tab := ⟨rfl⟩
theorem has_abi_NoEscape : B.H_abi_NoEscape tab := ⟨rfl⟩
theorem has_stringslite_Index : B.H_stringslite_Index tab := ⟨rfl⟩
theorem has_lex_quoted_next : B.H_lex_quoted_next tab := ⟨rfl, rfl⟩
theorem has_strings_Builder_String : B.H_strings_Builder_String tab := ⟨rfl, rfl⟩
theorem has_lex_numeral_answer : B.H_lex_numeral_answer tab := ⟨rfl, rfl⟩
theorem has_lex_Regular : B.H_lex_Regular tab := ⟨rfl, rfl, has_strings_IndexByte⟩
theorem has_lex_quoted_line : B.H_lex_quoted_line tab := ⟨rfl, rfl⟩
theorem has_real_Is : B.H_real_Is tab := ⟨rfl, rfl⟩
theorem has_strings_Builder_copyCheck : B.H_strings_Builder_copyCheck tab := ⟨rfl, rfl, has_abi_NoEscape⟩
theorem has_stringslite_HasPrefix : B.H_stringslite_HasPrefix tab := ⟨rfl, rfl⟩
theorem has_stringslite_Cut : B.H_stringslite_Cut tab := ⟨rfl, rfl, has_stringslite_Index⟩
theorem has_real_front : B.H_real_front tab := ⟨rfl, rfl⟩
theorem has_real_fraction : B.H_real_fraction tab := ⟨rfl, rfl⟩
theorem has_real_double : B.H_real_double tab := ⟨rfl, rfl⟩
theorem has_lex_letters : B.H_lex_letters tab := ⟨rfl, rfl⟩
theorem has_strings_shouldUseASCIISet : B.H_strings_shouldUseASCIISet tab := ⟨rfl, rfl⟩
theorem has_strings_makeASCIISet : B.H_strings_makeASCIISet tab := ⟨rfl, rfl⟩
theorem has_strings_asciiSet_contains : B.H_strings_asciiSet_contains tab := ⟨rfl, rfl⟩
theorem has_real_scanner_one : B.H_real_scanner_one tab := ⟨rfl, rfl⟩
theorem has_real_scanner_digits : B.H_real_scanner_digits tab := ⟨rfl, rfl, has_real_scanner_one⟩
theorem has_lex_value : B.H_lex_value tab := ⟨rfl, rfl⟩
theorem has_unicode_utf8_ValidRune : B.H_unicode_utf8_ValidRune tab := ⟨rfl, rfl⟩
theorem has_bytealg_Cutover : B.H_bytealg_Cutover tab := ⟨rfl, rfl⟩
theorem has_lex_regular : B.H_lex_regular tab := ⟨rfl, rfl, has_lex_Regular⟩
theorem has_strings_Builder_WriteByte : B.H_strings_Builder_WriteByte tab := ⟨rfl, rfl, has_strings_Builder_copyCheck⟩
theorem has_strings_HasPrefix : B.H_strings_HasPrefix tab := ⟨rfl, rfl, has_stringslite_HasPrefix⟩
theorem has_strings_Cut : B.H_strings_Cut tab := ⟨rfl, rfl, has_stringslite_Cut⟩
theorem has_lex_quoted_escape : B.H_lex_quoted_escape tab := ⟨rfl, rfl, has_lex_quoted_next, has_lex_letters, has_lex_quoted_line⟩
theorem has_real_scanner_decimal : B.H_real_scanner_decimal tab := ⟨rfl, rfl, has_real_scanner_one, has_real_scanner_digits⟩
theorem has_lex_digits_1 : B.H_lex_digits_1 tab := ⟨rfl, rfl, has_lex_value⟩
theorem has_strings_IndexRune : B.H_strings_IndexRune tab := ⟨rfl, rfl, has_strings_IndexByte, has_unicode_utf8_ValidRune, has_bytealg_Cutover⟩
theorem has_lex_Quote : B.H_lex_Quote tab := ⟨rfl, rfl, has_strings_Builder_WriteByte, has_strings_Builder_String⟩
theorem has_lex_quoted_run : B.H_lex_quoted_run tab := ⟨rfl, rfl, has_lex_quoted_next, has_lex_quoted_escape, has_lex_quoted_line⟩
theorem has_real_Parse : B.H_real_Parse tab := ⟨rfl, rfl, has_real_scanner_decimal, has_real_front, has_real_fraction, has_real_double, has_real_Is⟩
theorem has_lex_digits : B.H_lex_digits tab := ⟨rfl, rfl, has_lex_digits_1⟩
theorem has_strings_IndexAny : B.H_strings_IndexAny tab := ⟨rfl, rfl, has_strings_IndexRune, has_strings_shouldUseASCIISet, has_strings_makeASCIISet, has_strings_asciiSet_contains⟩
theorem has_lex_Unquote : B.H_lex_Unquote tab := ⟨rfl, rfl, has_lex_quoted_next, has_lex_quoted_run⟩
theorem has_lex_count : B.H_lex_count tab := ⟨rfl, rfl, has_lex_digits⟩
theorem has_strings_ContainsAny : B.H_strings_ContainsAny tab := ⟨rfl, rfl, has_strings_IndexAny⟩
theorem has_lex_pattern : B.H_lex_pattern tab := ⟨rfl, rfl, has_real_Parse⟩
theorem has_lex_numeral_whole : B.H_lex_numeral_whole tab := ⟨rfl, rfl, has_strings_HasPrefix, has_lex_count, has_lex_numeral_answer⟩
theorem has_lex_numeral_radix : B.H_lex_numeral_radix tab := ⟨rfl, rfl, has_strings_Cut, has_lex_count, has_lex_numeral_answer⟩
theorem has_lex_numeral_decimal : B.H_lex_numeral_decimal tab := ⟨rfl, rfl, has_strings_ContainsAny, has_lex_pattern, has_real_Parse⟩
theorem has_lex_Number : B.H_lex_Number tab := ⟨rfl, rfl, has_lex_numeral_whole, has_lex_numeral_radix, has_lex_numeral_decimal⟩
theorem has_lex_Word : B.H_lex_Word tab := ⟨rfl, rfl, has_lex_regular, has_lex_Number⟩
theorem has_chaselaw03_number : B.H_chaselaw03_number tab := ⟨rfl, rfl, has_lex_Number⟩
theorem has_lex_named : B.H_lex_named tab := ⟨rfl, rfl, has_lex_regular, has_lex_Number⟩
theorem has_lex_right : B.H_lex_right tab := ⟨rfl, rfl, has_real_Is, has_lex_named⟩
theorem has_lex_Check : B.H_lex_Check tab := ⟨rfl, rfl, has_lex_right⟩
theorem has_chaselaw03_works : B.H_chaselaw03_works tab := ⟨rfl, rfl, has_chaselaw03_number, has_lex_Number, has_lex_Word, has_lex_Unquote, has_lex_Quote, has_lex_Check⟩
theorem has_chaselaw03_LexKnown : B.H_chaselaw03_LexKnown tab := ⟨rfl, rfl, has_chaselaw03_works, has_strings_Repeat, has_lex_Number, has_lex_Word, has_lex_Unquote, has_chaselaw03_number, has_lex_Check⟩
theorem tabOK_all (ok13 : EntryOK chkD cx 13 B.E_strings_Repeat) (ok84 : EntryOK chkD cx 84 B.E_strings_IndexByte) (ok118 : EntryOK chkD cx 118 B.E_abi_NoEscape) (ok142 : EntryOK chkD cx 142 B.E_stringslite_Index) : TabOK chkD cx tab := tabOK_of fnT_all (fun f F h => by
  simp only [enT] at h
  by_cases e13 : f = 13
  · subst e13; simp only [if_true, Option.some.injEq] at h; subst h; exact ok13
  rw [if_neg e13] at h
  by_cases e84 : f = 84
  · subst e84; simp only [if_true, Option.some.injEq] at h; subst h; exact ok84
  rw [if_neg e84] at h
  by_cases e118 : f = 118
  · subst e118; simp only [if_true, Option.some.injEq] at h; subst h; exact ok118
  rw [if_neg e118] at h
  by_cases e142 : f = 142
  · subst e142; simp only [if_true, Option.some.injEq] at h; subst h; exact ok142
  rw [if_neg e142] at h
  cases h)
end Go.Ev.LexKnown

/- DERIVED: THE SHELF's CONTRACTS AT THIS DUMP, IN PLAIN WORDS (tools/lay-plain.mjs out of 'TryShelf.lean', which tools/lay-shelf.mjs wrote): THE SAME DECLARATIONS UNDER THE SAME NAMES: 'import', 'namespace', 'open', 'def', 'theorem' AND NOTHING ELSE: no command of the shelf's: FOR A HAND-IN. Each laying: the table of numbers ('.._ren') and one theorem, a field a fact of the dump's own or the kernel's comparison; each contract: ONE APPLICATION. -/
namespace Go.Proofs
open Go.Shelf
def Try.lays137_ren : Go.Shelf.Ren := ⟨fun | 137 => 30 | 217 => 56 | 266 => 74 | n => n, fun | 9 => 9 | 5 => 5 | 3 => 3 | n => n, fun | n => n⟩
theorem Try.lays137 : Go.Proofs.Lays.n137 Try.prog Try.lays137_ren := {
  mixed := by kernel_rfl
  f137 := Try.func30.trans (congrArg some (by kernel_rfl))
  f217 := Try.func56.trans (congrArg some (by kernel_rfl))
  f266 := Try.func74.trans (congrArg some (by kernel_rfl))
  t3 := Try.underlying3
  a3 := Try.isAgg3
  z3 := Try.sizeOf3
  v3 := Try.zeroValue3
  t5 := Try.underlying5
  a5 := Try.isAgg5
  z5 := Try.sizeOf5
  v5 := Try.zeroValue5
  t9 := Try.underlying9
  a9 := Try.isAgg9
  z9 := Try.sizeOf9
  v9 := Try.zeroValue9 }
open Go.RowKit in
/-- strings.IndexByte: "IndexByte returns the index of the first instance of c in s, or -1 if c is not present in s.": IT RETURNS 'Lib.indexByte s c'; the world is as it was. (LAID: no walk: one application.) -/
theorem Try.strings_IndexByte (s : ByteArray) (c : Int) (w : World) :
    Calls Try.prog 30 #[.string s, .int .u8 c] w fun e w' => e = .returned (.int .i64 (Lib.indexByte s.data.toList c.toNat.toUInt8)) ∧ w' = w := Any.strings_IndexByte Try.lays137 s c w
def Try.lays219_ren : Go.Shelf.Ren := ⟨fun | 219 => 80 | 217 => 56 | 225 => 87 | 224 => 88 | 267 => 89 | 266 => 74 | 314 => 91 | n => n, fun | 9 => 9 | 3 => 3 | 4 => 4 | 5 => 5 | 46 => 73 | 146 => 94 | 51 => 93 | n => n, fun | 1 => 0 | n => n⟩
theorem Try.lays219 : Go.Proofs.Lays.n219 Try.prog Try.lays219_ren := {
  mixed := by kernel_rfl
  f217 := Try.func56.trans (congrArg some (by kernel_rfl))
  f219 := Try.func80.trans (congrArg some (by kernel_rfl))
  f224 := Try.func88.trans (congrArg some (by kernel_rfl))
  f225 := Try.func87.trans (congrArg some (by kernel_rfl))
  f266 := Try.func74.trans (congrArg some (by kernel_rfl))
  f267 := Try.func89.trans (congrArg some (by kernel_rfl))
  f314 := Try.func91.trans (congrArg some (by kernel_rfl))
  t3 := Try.underlying3
  a3 := Try.isAgg3
  z3 := Try.sizeOf3
  v3 := Try.zeroValue3
  t4 := Try.underlying4
  a4 := Try.isAgg4
  z4 := Try.sizeOf4
  v4 := Try.zeroValue4
  t5 := Try.underlying5
  a5 := Try.isAgg5
  z5 := Try.sizeOf5
  v5 := Try.zeroValue5
  t9 := Try.underlying9
  a9 := Try.isAgg9
  z9 := Try.sizeOf9
  v9 := Try.zeroValue9
  t46 := Try.underlying73
  a46 := Try.isAgg73
  z46 := Try.sizeOf73
  v46 := Try.zeroValue73
  t51 := Try.underlying93
  a51 := Try.isAgg93
  z51 := Try.sizeOf93
  v51 := Try.zeroValue93
  t146 := Try.underlying94
  a146 := Try.isAgg94
  z146 := Try.sizeOf94
  v146 := Try.zeroValue94
  g1 := by kernel_rfl }
open Go.RowKit Go.Lib in
/-- internal/stringslite.Index (what strings.Index calls) AT A substr OF ONE BYTE c: IT RETURNS 'Lib.indexByte s c'; the world is as it was. (LAID: no walk: one application.) -/
theorem Try.stringslite_Index_one (s : ByteArray) (c : UInt8) (w : World) :
    Calls Try.prog 80 #[.string s, .string ⟨#[c]⟩] w fun e w' => e = .returned (.int .i64 (Lib.indexByte s.data.toList c)) ∧ w' = w := Any.stringslite_Index_one Try.lays219 s c w
def Try.lays105_ren : Go.Shelf.Ren := ⟨fun | 105 => 18 | 212 => 39 | 99 => 40 | 165 => 41 | 166 => 42 | 170 => 43 | 169 => 38 | 263 => 61 | 264 => 62 | 206 => 63 | 240 => 60 | 241 => 64 | 276 => 76 | 277 => 77 | n => n, fun | 9 => 9 | 3 => 3 | 4 => 4 | 20 => 20 | 0 => 0 | 46 => 73 | 109 => 74 | 5 => 5 | 72 => 68 | 76 => 78 | 51 => 93 | 146 => 94 | 53 => 96 | 148 => 97 | 70 => 66 | 37 => 22 | 75 => 70 | 127 => 92 | 164 => 115 | 80 => 72 | n => n, fun | n => n⟩
theorem Try.lays105 : Go.Proofs.Lays.n105 Try.prog Try.lays105_ren := {
  mixed := by kernel_rfl
  f99 := Try.func40.trans (congrArg some (by kernel_rfl))
  f105 := Try.func18.trans (congrArg some (by kernel_rfl))
  f165 := Try.func41.trans (congrArg some (by kernel_rfl))
  f166 := Try.func42.trans (congrArg some (by kernel_rfl))
  f169 := Try.func38.trans (congrArg some (by kernel_rfl))
  f170 := Try.func43.trans (congrArg some (by kernel_rfl))
  f206 := Try.func63.trans (congrArg some (by kernel_rfl))
  f212 := Try.func39.trans (congrArg some (by kernel_rfl))
  f240 := Try.func60.trans (congrArg some (by kernel_rfl))
  f241 := Try.func64.trans (congrArg some (by kernel_rfl))
  f263 := Try.func61.trans (congrArg some (by kernel_rfl))
  f264 := Try.func62.trans (congrArg some (by kernel_rfl))
  f276 := Try.func76.trans (congrArg some (by kernel_rfl))
  f277 := Try.func77.trans (congrArg some (by kernel_rfl))
  t0 := Try.underlying0
  a0 := Try.isAgg0
  z0 := Try.sizeOf0
  v0 := Try.zeroValue0
  t3 := Try.underlying3
  a3 := Try.isAgg3
  z3 := Try.sizeOf3
  v3 := Try.zeroValue3
  t4 := Try.underlying4
  a4 := Try.isAgg4
  z4 := Try.sizeOf4
  v4 := Try.zeroValue4
  t5 := Try.underlying5
  a5 := Try.isAgg5
  z5 := Try.sizeOf5
  v5 := Try.zeroValue5
  t9 := Try.underlying9
  a9 := Try.isAgg9
  z9 := Try.sizeOf9
  v9 := Try.zeroValue9
  t20 := Try.underlying20
  a20 := Try.isAgg20
  z20 := Try.sizeOf20
  v20 := Try.zeroValue20
  t37 := Try.underlying22
  a37 := Try.isAgg22
  z37 := Try.sizeOf22
  v37 := Try.zeroValue22
  t46 := Try.underlying73
  a46 := Try.isAgg73
  z46 := Try.sizeOf73
  v46 := Try.zeroValue73
  t51 := Try.underlying93
  a51 := Try.isAgg93
  z51 := Try.sizeOf93
  v51 := Try.zeroValue93
  t53 := Try.underlying96
  a53 := Try.isAgg96
  z53 := Try.sizeOf96
  v53 := Try.zeroValue96
  t70 := Try.underlying66
  a70 := Try.isAgg66
  z70 := Try.sizeOf66
  v70 := Try.zeroValue66
  t72 := Try.underlying68
  a72 := Try.isAgg68
  z72 := Try.sizeOf68
  v72 := Try.zeroValue68
  t75 := Try.underlying70
  a75 := Try.isAgg70
  z75 := Try.sizeOf70
  v75 := Try.zeroValue70
  t76 := Try.underlying78
  a76 := Try.isAgg78
  z76 := Try.sizeOf78
  v76 := Try.zeroValue78
  t109 := Try.underlying74
  a109 := Try.isAgg74
  z109 := Try.sizeOf74
  v109 := Try.zeroValue74
  t127 := Try.underlying92
  a127 := Try.isAgg92
  z127 := Try.sizeOf92
  v127 := Try.zeroValue92
  t146 := Try.underlying94
  a146 := Try.isAgg94
  z146 := Try.sizeOf94
  v146 := Try.zeroValue94
  t148 := Try.underlying97
  a148 := Try.isAgg97
  z148 := Try.sizeOf97
  v148 := Try.zeroValue97
  t164 := Try.underlying115
  a164 := Try.isAgg115
  z164 := Try.sizeOf115
  v164 := Try.zeroValue115 }
theorem Try.Builder_Extra_105 : Builder.Extra Try.prog Try.lays105_ren := {
  sizeBuilder := by kernel_rfl
  liesBuilder := by kernel_rfl
  t5 := Try.underlying5
  a5 := Try.isAgg5
  z5 := Try.sizeOf5
  v5 := Try.zeroValue5
  infoByte := by kernel_rfl
  cellsByte := by kernel_rfl
  sizeByte := by kernel_rfl
  neB5 := by decide }
open Go.RowKit Go.Lib in
/-- **strings.Repeat: count ≥ 0, the result within one allocation: count copies of s.** (LAID: no walk: one application.) -/
theorem Try.strings_Repeat (s : ByteArray) (c : Nat) (w : World) (hc : c ≤ 9223372036854775807) (hlen : s.size * c ≤ 140737488355328) :
    Calls Try.prog 18 #[.string s, .int .i64 c] w fun e w' => e = .returned (.string ⟨(Lib.repeatL s.data.toList c).toArray⟩) ∧ Below w.heap.size w w' := Any.strings_Repeat Try.lays105 Try.Builder_Extra_105 s c w hc hlen
end Go.Proofs
