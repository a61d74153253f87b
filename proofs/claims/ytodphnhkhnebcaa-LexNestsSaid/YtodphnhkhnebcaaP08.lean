/- LexKnown told. -/
import Derived.Test.YtodphnhkhnebcaaP07
import Derived.Test.YtodphnhkhnebcaaP04
import Derived.Lib.SmallJoins
import Derived.Deep.Slices
import Derived.OpenShut
import Derived.Test.YtodphnhkhnebcaaP05
import Derived.Test.YtodphnhkhnebcaaProg
import Derived.Shelf.Strings.Builder1
import Derived.Shelf.Strings.Builder2
import Derived.Shelf.Small.Utf8
import Derived.Shelf.Small.Strs
import Derived.Shelf.Strings.BuilderF
import Derived.Shelf.Strings.BuilderK
import Derived.Shelf.Strings.Builder2Cap
import Derived.Shelf.Strings.Search1
import Derived.Shelf.Strings.Search2
import Derived.Shelf.Strings.Cut
import Derived.Shelf.LaysM
import Derived.Shelf.Strings.Shaped
import Derived.Shelf.Strings.Prefix
import Derived.Shelf.Strings.Runes
import Derived.Shelf.Strings.IndexAny
import Derived.Shelf.Strings.AsciiSet
import Derived.Shelf.Strings.IndexAnyAll
import Derived.Shelf.Bits.Mul64
import Derived.Shelf.Strings.Repeat
namespace Go.Ev
open Go
set_option linter.unusedSimpArgs false
set_option linter.unusedSectionVars false
set_option linter.unusedVariables false

variable {T : Tab} {st : St}

def zeros : List UInt8 := Lib.repeatL [48] 39
theorem kn1 : numT (48 :: (zeros ++ [55])) = (0, 0, 26) := by kernel_rfl
theorem kn2 : numT (48 :: 46 :: (zeros ++ [55])) = (0, 0, 26) := by kernel_rfl
theorem kn3 : numT (48 :: 46 :: 120 :: (zeros ++ [55])) = (0, 0, 5) := by kernel_rfl
theorem kn4 : wordT (Lib.repeatL [120] 100) = (3, 0, Lib.repeatL [120] 100, 0) := by kernel_rfl
theorem kn4l : (Lib.repeatL ([120] : List UInt8) 100).length = 100 := by kernel_rfl
theorem kn5 : wordT (Lib.repeatL [120] 101) = (0, 0, [], 26) := by kernel_rfl
theorem kn6 : unquoteT (40 :: (Lib.repeatL [97] 1000 ++ [41])) = (Lib.repeatL [97] 1000, 1002, 0) := by kernel_rfl
theorem kn6l : (Lib.repeatL ([97] : List UInt8) 1000).length = 1000 := by kernel_rfl
theorem kn7 : unquoteT (40 :: (Lib.repeatL [97] 1001 ++ [41])) = ([], 0, 26) := by kernel_rfl
theorem kn7l : (Lib.repeatL ([97] : List UInt8) 1001).length = 1001 := by kernel_rfl
theorem kn8 : unquoteT [] = ([], 0, 5) := by kernel_rfl
theorem kn9 : unquoteT [40, 97, 92] = ([], 0, 5) := by kernel_rfl
theorem kn10 : numT (zeros ++ [55]) = (1, 7, 0) := by kernel_rfl
theorem kn11 : numT [45, 50, 49, 52, 55, 52, 56, 51, 54, 52, 56] = (1, -2147483648, 0) := by kernel_rfl
theorem kn12 : numT [43, 53] = (1, 5, 0) := by kernel_rfl
theorem kn13 : numT [45, 46, 53, 101, 49] = (2, -327680, 0) := by kernel_rfl
theorem kn14 : numT [51, 54, 35, 122, 105, 107, 48, 122, 106] = (1, 2147483647, 0) := by kernel_rfl
theorem kn20 : unquoteT [40, 97, 13, 98, 13, 10, 99, 10, 100, 41] = ([97, 10, 98, 10, 99, 10, 100], 10, 0) := by kernel_rfl
theorem kn21 : unquoteT [40, 97, 92, 13, 10, 98, 92, 13, 99, 92, 10, 100, 41] = ([97, 98, 99, 100], 13, 0) := by kernel_rfl
theorem kn22 : unquoteT [40, 92, 52, 48, 48, 92, 55, 92, 55, 56, 41] = ([0, 7, 7, 56], 11, 0) := by kernel_rfl
theorem kn23 : unquoteT [40, 92, 114, 92, 116, 92, 98, 92, 102, 92, 41, 92, 40, 92, 92, 92, 113, 41] = ([13, 9, 8, 12, 41, 40, 92, 113], 18, 0) := by kernel_rfl
theorem kn24 : unquoteT [40, 41] = ([], 2, 0) := by kernel_rfl
theorem kt0 : rightT 0 0 [] = false := by kernel_rfl
theorem kt1 : rightT 9 0 [] = false := by kernel_rfl
theorem kt2 : rightT 3 0 [] = false := by kernel_rfl
theorem kt3 : rightT 3 0 [97, 32, 98] = false := by kernel_rfl
theorem kt4 : rightT 1 2147483648 [] = false := by kernel_rfl
theorem kt5 : rightT 2 2147483649 [] = false := by kernel_rfl
theorem kt6 : rightT 7 0 [123] = false := by kernel_rfl
theorem kt7 : rightT 4 0 [91] = false := by kernel_rfl
theorem kt8 : rightT 6 1 [] = false := by kernel_rfl
theorem kt9 : rightT 3 0 [49, 101, 57] = false := by kernel_rfl

theorem zl : zeros.length = 39 := by kernel_rfl

theorem rep_call (H : B.H_strings_Repeat T) {s : List UInt8} {n : Int} (h0 : 0 ≤ n) (h1 : n ≤ 9223372036854775807) (h2 : s.length * n.toNat ≤ 140737488355328) : call T (.fn 13 [] []) [.str s, .int .i64 n] st = some (.str (Lib.repeatL s n.toNat), st) := by
  rw [call_entry H.en]
  simp only [B.E_strings_Repeat, repeatE, List.nil_append, List.append_nil]
  rw [if_pos ⟨h0, h1, h2⟩]

theorem known_round (H : B.H_chaselaw03_LexKnown T) (hwf : st.Wf) {e : Env} {s t : List UInt8} (hs : s.length < 1000000000000) (h : unquoteT s = (t, s.length, 0)) :
    Round T 159 160 161 [B.p 162 (.extr 0 161), B.p 163 (.extr 1 161), B.p 25 (.mov 162), B.p 26 (.mov 163)] [158, 24] B.chaselaw03_LexKnown_l0 e st (.str s) (.str t) := by
  unfold Round
  simp [go_sem, B.chaselaw03_LexKnown_l0]
  refine (unq_call H.lex_Unquote hwf h hs).use fun s1 x1 => ?_
  simp [go_sem, seq8_eq]
  refine ⟨?_, x1.kept hwf⟩
  intro r hr
  simp at hr
  rcases hr with rfl | rfl <;> simp [go_sem]

def badToks : List (Int × Int × List UInt8) := [(0, 0, []), (9, 0, []), (3, 0, []), (3, 0, [97, 32, 98]), (1, 2147483648, []), (2, 2147483649, []), (7, 0, [123]), (4, 0, [91]), (6, 1, []), (3, 0, [49, 101, 57])]
theorem bad_all : ∀ t ∈ badToks, rightT t.1 t.2.1 t.2.2 = false ∧ t.2.2.length < 100 := by
  intro t ht
  have h : badToks.all (fun t => !rightT t.1 t.2.1 t.2.2 && decide (t.2.2.length < 100)) = true := by kernel_rfl
  have := List.all_eq_true.1 h t ht
  simpa using this
def toksC (l : List (Int × Int × List UInt8)) : List AV := l.flatMap fun t => tokC t.1 t.2.1 t.2.2
theorem toksC_at : ∀ {l : List (Int × Int × List UInt8)} {i : Nat} {t : Int × Int × List UInt8}, l[i]? = some t → ((toksC l).drop (3 * i)).take 3 = tokC t.1 t.2.1 t.2.2 ∧ 3 * i + 3 ≤ (toksC l).length
  | [], i, t, h => by cases i <;> cases h
  | a :: l, 0, t, h => by
    simp at h; subst h
    simp [toksC, tokC]
  | a :: l, i + 1, t, h => by
    simp only [List.getElem?_cons_succ] at h
    obtain ⟨h1, h2⟩ := toksC_at h
    have e : toksC (a :: l) = tokC a.1 a.2.1 a.2.2 ++ toksC l := by simp [toksC]
    have e3 : (tokC a.1 a.2.1 a.2.2).length = 3 := rfl
    rw [e]
    refine ⟨?_, by rw [List.length_append, e3]; omega⟩
    rw [show 3 * (i + 1) = (tokC a.1 a.2.1 a.2.2).length + 3 * i by rw [e3]; omega, List.drop_append, List.drop_of_length_le (by omega), List.nil_append]
    rw [show (tokC a.1 a.2.1 a.2.2).length + 3 * i - (tokC a.1 a.2.1 a.2.2).length = 3 * i by omega]
    exact h1

theorem known_loop (H : B.H_chaselaw03_LexKnown T) {st0 : St} {ty n : Nat} {b : Bool} : ∀ (m i : Nat) (e : Env) (st1 : St), i + m = 10 → Ext st0 st1 → hget st1.h n = some (.cells ty false (toksC badToks)) → eget e 24 = .bool b → eget e 193 = .slice n 0 10 (.known 10) → eget e 194 = .int .i64 10 → eget e 195 = .int .i64 i →
    Res (run T (.loop B.chaselaw03_LexKnown_l1) e st1) fun x e' s' => x = .exit 2 ∧ Ext st0 s' ∧ eget e' 24 = .bool b := by
  intro m
  induction m with
  | zero =>
    intro i e st1 hi hx hg g24 g193 g194 g195
    have : i = 10 := by omega
    subst this
    rw [run_loop]
    simp [B.chaselaw03_LexKnown_l1, go_sem, g24, g193, g194, g195, hx]
  | succ m ih =>
    intro i e st1 hi hx hg g24 g193 g194 g195
    have hi10 : (i : Int) < 10 := by omega
    have hi10' : i < 10 := by omega
    have hlen : badToks.length = 10 := rfl
    obtain ⟨t, ht⟩ : ∃ t, badToks[i]? = some t := ⟨badToks[i]'(by omega), List.getElem?_eq_getElem _⟩
    obtain ⟨h1, h2⟩ := toksC_at ht
    obtain ⟨b1, b2⟩ := bad_all t (List.mem_of_getElem? ht)
    have hrd : rdCells st1.h n (i * 3) 3 = some [.int .i64 t.1, .int .i64 t.2.1, .str t.2.2] := by
      rw [rd_part hg (by rw [Nat.mul_comm]; exact h2), Nat.mul_comm, h1]; rfl
    have x1 := hx.trans (Ext.new hx.wf (.cells 134 true [.int .i64 t.1, .int .i64 t.2.1, .str t.2.2]))
    have g1 := (Ext.new hx.wf (.cells 134 true [.int .i64 t.1, .int .i64 t.2.1, .str t.2.2])).get hx.wf hg
    rw [run_loop]
    simp [B.chaselaw03_LexKnown_l1, go_sem, g24, g193, g194, g195, hi10, hi10', RO.run, NO.run, WO.run, hrd, wr_tok, rd_tok]
    refine (chk_call H.lex_Check x1.wf b1 (by omega)).use fun s2 x2' => ?_
    have x2 := x1.trans x2'
    have g2 := x2'.get x1.wf g1
    simp [go_sem]
    refine ih (i + 1) _ s2 (by omega) x2 g2 ?_ ?_ ?_ ?_
    · simp [go_sem]
    · simp [go_sem]
    · simp [go_sem]
    · simp [go_sem]; exact wrap64' (by omega) (by omega)

theorem known_tells (H : B.H_chaselaw03_LexKnown T) (hwf : st.Wf) : Tells T st (.fn 61 [] []) [] (.bool true) := by
  refine tells_of H.e H.f rfl ?_
  simp [B.chaselaw03_LexKnown, go_sem]
  refine (works_tells H.chaselaw03_works hwf).use fun s1 x1 => ?_
  have rp := fun (st : St) (s : List UInt8) (n : Int) h0 h1 h2 => rep_call (st := st) H.strings_Repeat (s := s) (n := n) h0 h1 h2
  simp [go_sem]
  rw [rp _ _ _ (by simp) (by simp) (by simp)]
  have k1 := kn1
  have k2 := kn2
  have k3 := kn3
  have k10 := kn10
  simp [go_sem]
  rw [show Lib.repeatL ([48] : List UInt8) 39 = zeros from rfl]
  have hL : (zeros ++ [55]).length = 40 := by rw [List.length_append, zl]; rfl
  rw [zl]
  generalize zeros ++ [55] = L at k1 k2 k3 k10 hL ⊢
  simp [go_sem, hL]
  refine (num_call H.lex_Number x1.wf k1 (by simp [hL])).use fun s2 x2' => ?_
  have x2 := x1.trans x2'
  simp [go_sem, hL, tokA, tokC, NO.run, WO.run, wr_tok]
  have y2 := x2.trans (Ext.new x2.wf (.cells 134 true [.int .i64 0, .int .i64 0, .str []]))
  refine (num_call H.lex_Number y2.wf k2 (by simp [hL])).use fun s3 x3' => ?_
  have x3 := y2.trans x3'
  simp [go_sem, hL, tokA, tokC, NO.run, WO.run, wr_tok]
  have y3 := x3.trans (Ext.new x3.wf (.cells 134 true [.int .i64 0, .int .i64 0, .str []]))
  refine (num_call H.lex_Number y3.wf k3 (by simp [hL])).use fun s4 x4' => ?_
  have x4 := y3.trans x4'
  simp [go_sem, hL, tokA, tokC, NO.run, WO.run, wr_tok]
  have y4 := x4.trans (Ext.new x4.wf (.cells 134 true [.int .i64 0, .int .i64 0, .str []]))
  rw [rp _ _ _ (by simp) (by simp) (by simp)]
  simp [go_sem]
  refine (word_call H.lex_Word y4.wf kn4 (by rw [kn4l]; simp)).use fun s5 x5' => ?_
  have x5 := y4.trans x5'
  have k4l := kn4l
  generalize Lib.repeatL ([120] : List UInt8) 100 = A at k4l ⊢
  simp [go_sem, tokA, tokC, NO.run, WO.run, wr_tok]
  have z5 := Ext.new x5.wf (.cells 134 true [.int .i64 3, .int .i64 0, .str A])
  have y5 := x5.trans z5
  have g5 : hget ((s5.nx, AObj.cells 134 true [.int .i64 3, .int .i64 0, .str A]) :: s5.h) s5.nx = some (.cells 134 true [.int .i64 3, .int .i64 0, .str A]) := by simp [hget_cons]
  generalize hS : (⟨(s5.nx, AObj.cells 134 true [.int .i64 3, .int .i64 0, .str A]) :: s5.h, s5.nx + 1⟩ : St) = s6 at y5 ⊢
  rw [show (s5.nx, AObj.cells 134 true [.int .i64 3, .int .i64 0, .str A]) :: s5.h = s6.h by rw [← hS]] at g5
  clear hS z5
  generalize s5.nx = n5 at g5 ⊢
  rw [rp _ _ _ (by simp) (by simp) (by simp)]
  simp [go_sem]
  refine (word_call H.lex_Word y5.wf kn5 (by rw [show (Lib.repeatL ([120] : List UInt8) 101).length = 101 by kernel_rfl]; simp)).use fun s7 x7' => ?_
  have x7 := y5.trans x7'
  have g7 := x7'.get y5.wf g5
  simp [go_sem, tokA, tokC, NO.run, WO.run, wr_tok]
  have z7 := Ext.new x7.wf (.cells 134 true [.int .i64 0, .int .i64 0, .str []])
  have y7 := x7.trans z7
  have g8 := z7.get x7.wf g7
  generalize hS : (⟨(s7.nx, AObj.cells 134 true [.int .i64 0, .int .i64 0, .str []]) :: s7.h, s7.nx + 1⟩ : St) = s8 at y7 g8 ⊢
  clear hS z7
  rw [rp _ _ _ (by simp) (by simp) (by simp)]
  have k6 := kn6
  have k6l := kn6l
  have k7 := kn7
  have k7l := kn7l
  simp [go_sem]
  generalize Lib.repeatL ([97] : List UInt8) 1000 = AA at k6 k6l ⊢
  simp [go_sem, k6l]
  refine (unq_call H.lex_Unquote y7.wf k6 (by simp [k6l])).use fun s9 x9' => ?_
  have x9 := y7.trans x9'
  have g9 := x9'.get y7.wf g8
  simp [go_sem]
  rw [rp _ _ _ (by simp) (by simp) (by simp)]
  simp [go_sem]
  generalize Lib.repeatL ([97] : List UInt8) 1001 = AB at k7 k7l ⊢
  simp [go_sem, k7l]
  refine (unq_call H.lex_Unquote x9.wf k7 (by simp [k7l])).use fun s10 x10' => ?_
  have x10 := x9.trans x10'
  have g10 := x10'.get x9.wf g9
  simp [go_sem]
  refine (unq_call H.lex_Unquote x10.wf kn8 (by simp)).use fun s11 x11' => ?_
  have x11 := x10.trans x11'
  have g11 := x11'.get x10.wf g10
  simp [go_sem]
  refine (unq_call H.lex_Unquote x11.wf kn9 (by simp)).use fun s12 x12' => ?_
  have x12 := x11.trans x12'
  have g12 := x12'.get x11.wf g11
  simp [go_sem]
  refine (number73_tells H.chaselaw03_number x12.wf (by simp [hL])).use fun s13 x13' => ?_
  have x13 := x12.trans x13'
  have g13 := x13'.get x12.wf g12
  simp [go_sem, k10, isT]
  refine (number73_tells H.chaselaw03_number x13.wf (by simp)).use fun s14 x14' => ?_
  have x14 := x13.trans x14'
  have g14 := x14'.get x13.wf g13
  simp [go_sem, kn11, isT]
  refine (number73_tells H.chaselaw03_number x14.wf (by simp)).use fun s15 x15' => ?_
  have x15 := x14.trans x15'
  have g15 := x15'.get x14.wf g14
  simp [go_sem, kn12, isT]
  refine (number73_tells H.chaselaw03_number x15.wf (by simp)).use fun s16 x16' => ?_
  have x16 := x15.trans x16'
  have g16 := x16'.get x15.wf g15
  simp [go_sem, kn13, isT]
  refine (number73_tells H.chaselaw03_number x16.wf (by simp)).use fun s17 x17' => ?_
  have x17 := x16.trans x17'
  have g17 := (tok2 (x17'.get x16.wf g16)).2
  simp [go_sem, kn14, isT, RO.run, g17, k4l, k6l]
  refine res_rangeMap ?_
  simp [go_sem, NO.run, WO.run, hget_cons, hset_cons, mins, cellEqK, seq8]
  generalize hm : AObj.map _ = M
  have y18 : Ext st ⟨hdel ((s17.nx, M) :: s17.h) s17.nx, s17.nx + 1 + 1⟩ := by
    have a := x17.trans (Ext.new x17.wf M)
    have b := a.trans (Ext.aside a.wf 1)
    exact b.frm (Frm.hdel b.wf s17.nx) (by simpa using x17.nx)
  clear hm
  generalize hS : (⟨hdel ((s17.nx, M) :: s17.h) s17.nx, s17.nx + 1 + 1⟩ : St) = s18 at y18 ⊢
  rw [show hdel ((s17.nx, M) :: s17.h) s17.nx = s18.h by rw [← hS], show s17.nx + 1 + 1 = s18.nx by rw [← hS]]
  clear hS
  refine ⟨?_, ?_⟩
  · rintro a b (⟨rfl, rfl⟩ | ⟨rfl, rfl⟩ | ⟨rfl, rfl⟩ | ⟨rfl, rfl⟩ | ⟨rfl, rfl⟩)
    · exact known_round H y18.wf (by simp) kn20
    · exact known_round H y18.wf (by simp) kn21
    · exact known_round H y18.wf (by simp) kn22
    · exact known_round H y18.wf (by simp) kn23
    · exact known_round H y18.wf (by simp) kn24
  have x19 := y18.trans (Ext.new y18.wf (.cells 134 false (toksC badToks)))
  have hcs : toksC badToks = [.int .i64 0, .int .i64 0, .str [], .int .i64 9, .int .i64 0, .str [], .int .i64 3, .int .i64 0, .str [], .int .i64 3, .int .i64 0, .str [97, 32, 98], .int .i64 1, .int .i64 2147483648, .str [], .int .i64 2, .int .i64 2147483649, .str [], .int .i64 7, .int .i64 0, .str [123], .int .i64 4, .int .i64 0, .str [91], .int .i64 6, .int .i64 1, .str [], .int .i64 3, .int .i64 0, .str [49, 101, 57]] := rfl
  rw [← hcs]
  refine (known_loop H (b := true) (n := s18.nx) (ty := 134) 10 0 _ _ (by omega) x19 (by simp [hget_cons]) (by simp [go_sem]) (by simp [go_sem]) (by simp [go_sem]) (by simp [go_sem])).mono ?_
  rintro x e s19 ⟨rfl, x20, g24⟩
  simp [go_sem, g24]
  refine (works_tells H.chaselaw03_works x20.wf).use fun s20 x21 => ?_
  simp [go_sem]
  exact x20.trans x21
end Go.Ev

/- LexNests told. -/
namespace Go.Ev
open Go
set_option linter.unusedSimpArgs false
set_option linter.unusedSectionVars false
set_option linter.unusedVariables false

variable {T : Tab} {st : St}

/-- Octets that are only read: a slice of a block, from its beginning. -/
def InL (h : Heap) (v : AV) (l : List UInt8) : Prop := (v = .nilslice ∧ l = []) ∨ ∃ n full, v = .slice n 0 l.length .unk ∧ hget h n = some (.ro (u8s full)) ∧ l = full.take l.length
theorem InL.len {h : Heap} {v : AV} {l : List UInt8} {ev : AO → AV} {x : AO} (a : InL h v l) (hx : ev x = v) : PO.run ev (.lenOf false x) = some (.int .i64 l.length) := by
  rcases a with ⟨rfl, rfl⟩ | ⟨n, full, rfl, _, _⟩ <;> simp [PO.run, hx]
theorem InL.ext {st' : St} {v : AV} {l : List UInt8} (a : InL st.h v l) (x : Ext st st') (hw : st.Wf) : InL st'.h v l := by
  rcases a with h | ⟨n, full, h1, h2, h3⟩
  · exact .inl h
  · exact .inr ⟨n, full, h1, x.get hw h2, h3⟩
theorem InL.take {h : Heap} {v : AV} {l : List UInt8} {ev : AO → AV} {x y : AO} {k : IntKind} (a : InL h v l) (hx : ev x = v) {j : Int} (hy : ev y = .int k j) (h0 : 0 ≤ j) (h1 : j ≤ l.length) : ∃ v', PO.run ev (.subL 1 x none (some y) none) = some v' ∧ InL h v' (l.take j.toNat) := by
  rcases a with ⟨rfl, rfl⟩ | ⟨n, full, rfl, h2, h3⟩
  · refine ⟨.nilslice, ?_, .inl ⟨rfl, by simp⟩⟩
    have : j = 0 := by simp at h1; omega
    subst this
    simp only [PO.run, hx]
    simp [hy, asubL, abounds, bnd, abound, topOf, subCap]
  · have hl : (l.take j.toNat).length = j.toNat := by rw [List.length_take]; omega
    refine ⟨.slice n 0 j.toNat .unk, ?_, .inr ⟨n, full, by rw [hl], h2, ?_⟩⟩
    · simp only [PO.run, hx]
      simp only [hy, asubL, Option.map_some, Option.map_none]
      rw [abounds_hi h0 (show j ≤ (topOf l.length .unk : Nat) from h1)]
      simp [subCap]
    · have hle : l.length ≤ full.length := by
        have := congrArg List.length h3
        rw [List.length_take] at this; omega
      rw [hl]
      conv => lhs; rw [h3]
      rw [List.take_take, Nat.min_eq_left (by omega)]
theorem InL.at {h : Heap} {v : AV} {l : List UInt8} {i : Nat} {c : UInt8} (a : InL h v l) (hc : l[i]? = some c) : ∃ n, v = .slice n 0 l.length .unk ∧ rdCell h n i = some (.int .u8 (c.toNat : Int)) := by
  rcases a with ⟨rfl, rfl⟩ | ⟨n, full, rfl, h2, h3⟩
  · simp at hc
  · refine ⟨n, rfl, ?_⟩
    have : full[i]? = some c := by
      rw [h3, List.getElem?_take] at hc
      split at hc
      · exact hc
      · cases hc
    simp [rdCell, h2, u8s, this]

/-- What LexNests writes, and how many parentheses are left open. -/
def gen : List UInt8 → Nat → List UInt8 × Nat
  | [], o => ([], o)
  | c :: l, o =>
    if c.toNat % 8 = 0 then (40 :: (gen l (o + 1)).1, (gen l (o + 1)).2)
    else if c.toNat % 8 = 1 ∧ 0 < o then (41 :: (gen l (o - 1)).1, (gen l (o - 1)).2)
    else if c = 13 ∨ c = 92 ∨ c = 40 ∨ c = 41 then gen l o
    else (c :: (gen l o).1, (gen l o).2)

theorem nests_loop {st0 : St} {l : List UInt8} {v : AV} (hl : l.length ≤ 300) : ∀ (m i o : Nat) (S : List UInt8) (e : Env) (st1 : St), i + m = l.length → S.length ≤ i → o ≤ i → Ext st0 st1 → InL st1.h v l → eget e 3 = .str S → eget e 4 = .int .i64 o → eget e 16 = v → eget e 17 = .int .i64 l.length → eget e 18 = .int .i64 i →
    Res (run T (.loop B.chaselaw03_LexNests_l0) e st1) fun x e' s' => x = .exit 0 ∧ Ext st0 s' ∧ eget e' 3 = .str (S ++ (gen (l.drop i) o).1) ∧ eget e' 4 = .int .i64 ((gen (l.drop i) o).2 : Nat) ∧ (gen (l.drop i) o).2 ≤ 300 ∧ S.length + (gen (l.drop i) o).1.length ≤ 300 := by
  intro m
  induction m with
  | zero =>
    intro i o S e st1 hi hS ho hx hv g3 g4 g16 g17 g18
    have : i = l.length := by omega
    subst this
    rw [run_loop]
    simp [B.chaselaw03_LexNests_l0, go_sem, g3, g4, g16, g17, g18, gen, hx]
    omega
  | succ m ih =>
    intro i o S e st1 hi hS ho hx hv g3 g4 g16 g17 g18
    have hil : (i : Int) < l.length := by omega
    obtain ⟨c, hc, hd⟩ := idx_some (s := l) (i := i) (by omega)
    obtain ⟨n, hvn, hr⟩ := hv.at hc
    have e18 : IntKind.i64.wrap ((i : Int) + 1) = ((i + 1 : Nat) : Int) := wrap64' (by omega) (by omega)
    rw [run_loop]
    have hm : (c.toNat : Int).tmod 8 = ((c.toNat % 8 : Nat) : Int) := by rw [Int.tmod_eq_emod_of_nonneg (by omega)]; omega
    have hS' : S.length + 1 < 4611686018427387904 := by omega
    have step : ∀ (o' : Nat) (add : List UInt8) (e' : Env) (st2 : St), gen (l.drop i) o = (add ++ (gen (l.drop (i + 1)) o').1, (gen (l.drop (i + 1)) o').2) → add.length ≤ 1 → o' ≤ i + 1 → Ext st1 st2 → eget e' 3 = .str (S ++ add) → eget e' 4 = .int .i64 o' → eget e' 16 = v → eget e' 17 = .int .i64 l.length → eget e' 18 = .int .i64 ((i + 1 : Nat) : Int) →
        Res (run T (.loop B.chaselaw03_LexNests_l0) e' st2) fun x e' s' => x = .exit 0 ∧ Ext st0 s' ∧ eget e' 3 = .str (S ++ (gen (l.drop i) o).1) ∧ eget e' 4 = .int .i64 ((gen (l.drop i) o).2 : Nat) ∧ (gen (l.drop i) o).2 ≤ 300 ∧ S.length + (gen (l.drop i) o).1.length ≤ 300 := by
      intro o' add e' st2 hg ha ho' h2 k3 k4 k16 k17 k18
      rw [hg]
      have := ih (i + 1) o' (S ++ add) e' st2 (by omega) (by rw [List.length_append]; omega) ho' (hx.trans h2) (hv.ext h2 hx.wf) k3 k4 k16 k17 k18
      refine this.mono fun x e s ⟨a1, a2, a3, a4, a5, a6⟩ => ⟨a1, a2, by rw [a3, List.append_assoc], a4, a5, ?_⟩
      rw [List.length_append] at a6 ⊢; omega
    have hg := congrArg (fun r => gen r o) hd
    simp only [gen] at hg
    generalize gen (l.drop i) o = G at step hg ⊢
    generalize c.toNat % 8 = c8 at hm hg
    subst hvn
    by_cases c0 : c8 = 0
    · subst c0
      have e4 : IntKind.i64.wrap ((o : Int) + 1) = ((o + 1 : Nat) : Int) := wrap64' (by omega) (by omega)
      simp [B.chaselaw03_LexNests_l0, go_sem, g3, g4, g16, g17, g18, hil, RO.run, hr, hm, hS']
      exact step (o + 1) [40] _ _ (by simpa using hg) (by simp) (by omega) (.refl hx.wf) (by simp [go_sem]) (by simp [go_sem, e4]) (by simp [go_sem]) (by simp [go_sem]) (by simp [go_sem, e18])
    · have c0' : ¬ (c8 : Int) = 0 := by omega
      by_cases c1 : c8 = 1 ∧ 0 < o
      · obtain ⟨rfl, ho0⟩ := c1
        have e4 : IntKind.i64.wrap ((o : Int) - 1) = ((o - 1 : Nat) : Int) := by rw [wrap64' (by omega) (by omega)]; omega
        simp [B.chaselaw03_LexNests_l0, go_sem, g3, g4, g16, g17, g18, hil, RO.run, hr, hm, hS', ho0, show (0 : Int) < o by omega]
        exact step (o - 1) [41] _ _ (by simpa [ho0] using hg) (by simp) (by omega) (.refl hx.wf) (by simp [go_sem]) (by simp [go_sem, e4]) (by simp [go_sem]) (by simp [go_sem]) (by simp [go_sem, e18])
      · have hg' : G = if c = 13 ∨ c = 92 ∨ c = 40 ∨ c = 41 then gen (l.drop (i + 1)) o else (c :: (gen (l.drop (i + 1)) o).1, (gen (l.drop (i + 1)) o).2) := by simpa [c0, c1] using hg
        have hor : ∀ {P : Prop}, (c = 13 ∨ c = 92 ∨ c = 40 ∨ c = 41 → P) → (c ≠ 13 → c ≠ 92 → c ≠ 40 → c ≠ 41 → P) → P := fun f g => by
          by_cases h : c = 13 ∨ c = 92 ∨ c = 40 ∨ c = 41
          · exact f h
          · simp only [not_or] at h; exact g h.1 h.2.1 h.2.2.1 h.2.2.2
        have h30 : ((c8 : Int) = 1 ∧ (0 : Int) < o) ↔ False := by simp; omega
        refine hor (fun hb => ?_) (fun b1 b2 b3 b4 => ?_)
        · have hg2 : G = ([] ++ (gen (l.drop (i + 1)) o).1, (gen (l.drop (i + 1)) o).2) := by rw [hg', if_pos hb]; rfl
          have hcn : (c.toNat : Int) = 13 ∨ (c.toNat : Int) = 92 ∨ (c.toNat : Int) = 40 ∨ (c.toNat : Int) = 41 := by rcases hb with rfl | rfl | rfl | rfl <;> simp
          obtain ⟨nn, hn⟩ : ∃ nn : Int, nn = c.toNat := ⟨_, rfl⟩
          rw [← hn] at hcn hm hr
          by_cases c2 : c8 = 1
          · subst c2
            have ho0 : ¬ (0 : Int) < o := by omega
            have ho0' : ¬ 0 < o := by omega
            rcases hcn with rfl | rfl | rfl | rfl
            all_goals
              simp [B.chaselaw03_LexNests_l0, go_sem, g3, g4, g16, g17, g18, hil, RO.run, hr, hm, hS', ho0, ho0']
              exact step o [] _ _ hg2 (by simp) (by omega) (.refl hx.wf) (by simp [go_sem]) (by simp [go_sem]) (by simp [go_sem]) (by simp [go_sem]) (by simp [go_sem, e18])
          · have c2' : ¬ (c8 : Int) = 1 := by omega
            rcases hcn with rfl | rfl | rfl | rfl
            all_goals
              simp [B.chaselaw03_LexNests_l0, go_sem, g3, g4, g16, g17, g18, hil, RO.run, hr, hm, hS', c0, c0', c2, c2']
              exact step o [] _ _ hg2 (by simp) (by omega) (.refl hx.wf) (by simp [go_sem]) (by simp [go_sem]) (by simp [go_sem]) (by simp [go_sem]) (by simp [go_sem, e18])
        · have hg2 : G = ([c] ++ (gen (l.drop (i + 1)) o).1, (gen (l.drop (i + 1)) o).2) := by rw [hg', if_neg (by simp [b1, b2, b3, b4])]; rfl
          have n1 : ¬ (c.toNat : Int) = 13 := u8_ne b1 rfl
          have n2 : ¬ (c.toNat : Int) = 92 := u8_ne b2 rfl
          have n3 : ¬ (c.toNat : Int) = 40 := u8_ne b3 rfl
          have n4 : ¬ (c.toNat : Int) = 41 := u8_ne b4 rfl
          have m1 : ¬ c.toNat = 13 := by omega
          have m2 : ¬ c.toNat = 92 := by omega
          have m3 : ¬ c.toNat = 40 := by omega
          have m4 : ¬ c.toNat = 41 := by omega
          have xn := Ext.new hx.wf (.cells 5 false [.int .u8 (c.toNat : Int)])
          have hrd : rdCells ((st1.nx, AObj.cells 5 false [.int .u8 (c.toNat : Int)]) :: st1.h) st1.nx 0 1 = some [.int .u8 (c.toNat : Int)] := rd_all (ty := 5) (l := false) (by simp [hget_cons]) rfl
          have htb : toBytes [.int .u8 (c.toNat : Int)] = some [c] := toBytes_u8s [c]
          by_cases c2 : c8 = 1
          · subst c2
            have ho0 : ¬ (0 : Int) < o := by omega
            have ho0' : ¬ 0 < o := by omega
            simp [B.chaselaw03_LexNests_l0, go_sem, g3, g4, g16, g17, g18, hil, RO.run, NO.run, hr, hm, hS', ho0, ho0', n1, n2, n3, n4, m1, m2, m3, m4, hrd, htb, reps]
            exact step o [c] _ _ hg2 (by simp) (by omega) xn (by simp [go_sem]) (by simp [go_sem]) (by simp [go_sem]) (by simp [go_sem]) (by simp [go_sem, e18])
          · have c2' : ¬ (c8 : Int) = 1 := by omega
            simp [B.chaselaw03_LexNests_l0, go_sem, g3, g4, g16, g17, g18, hil, RO.run, NO.run, hr, hm, hS', c0, c0', c2, c2', n1, n2, n3, n4, m1, m2, m3, m4, hrd, htb, reps]
            exact step o [c] _ _ hg2 (by simp) (by omega) xn (by simp [go_sem]) (by simp [go_sem]) (by simp [go_sem]) (by simp [go_sem]) (by simp [go_sem, e18])

/-- What is written is read back. -/
theorem unq_gen : ∀ (l : List UInt8) (o f : Nat) (rest out : List UInt8), unq (f + (gen l o).1.length) (o + 1) ((gen l o).1 ++ rest) out = unq f ((gen l o).2 + 1) rest (out ++ (gen l o).1)
  | [], o, f, rest, out => by simp [gen]
  | c :: l, o, f, rest, out => by
    simp only [gen]
    split
    · have := unq_gen l (o + 1) f rest (out ++ [40])
      simp only [List.length_cons, List.cons_append]
      rw [← Nat.add_assoc, unq, if_neg (by decide), if_pos rfl, this]
      simp
    · split
      · rename_i h
        obtain ⟨o', rfl⟩ : ∃ o', o = o' + 1 := ⟨o - 1, by omega⟩
        have := unq_gen l o' f rest (out ++ [41])
        simp only [List.length_cons, List.cons_append, Nat.add_sub_cancel]
        rw [← Nat.add_assoc, unq, if_neg (by decide), if_neg (by decide), if_pos rfl, if_neg (by omega), show o' + 1 + 1 - 1 = o' + 1 by omega, this]
        simp
      · split
        · exact unq_gen l o f rest out
        · rename_i h
          simp only [not_or] at h
          have := unq_gen l o f rest (out ++ [c])
          simp only [List.length_cons, List.cons_append]
          rw [← Nat.add_assoc, unq, if_neg h.2.1, if_neg h.2.2.1, if_neg h.2.2.2]
          by_cases h10 : c = 10
          · subst h10
            rw [if_pos (.inl rfl)]
            simp only [lineN]
            rw [if_neg (by simp), List.drop_zero, this]
            simp
          · rw [if_neg (by simp [h10, h.1]), this]
            simp

theorem unq_close : ∀ (o f : Nat) (rest out : List UInt8), unq (f + o) (o + 1) (List.replicate o 41 ++ rest) out = unq f 1 rest (out ++ List.replicate o 41)
  | 0, f, rest, out => by simp
  | o + 1, f, rest, out => by
    have := unq_close o f rest (out ++ [41])
    rw [List.replicate_succ, List.cons_append, ← Nat.add_assoc, unq, if_neg (by decide), if_neg (by decide), if_pos rfl, if_neg (by omega), show o + 1 + 1 - 1 = o + 1 by omega, this]
    simp

theorem repeatL_c (c : UInt8) : ∀ n : Nat, Lib.repeatL [c] n = List.replicate n c
  | 0 => rfl
  | n + 1 => by rw [Lib.repeatL, repeatL_c c n, List.replicate_succ]; rfl

theorem nest_back (l : List UInt8) (h : ((gen l 0).1 ++ List.replicate (gen l 0).2 41).length ≤ 1000) :
    unquoteT (40 :: ((gen l 0).1 ++ List.replicate (gen l 0).2 41 ++ [41])) = ((gen l 0).1 ++ List.replicate (gen l 0).2 41, ((gen l 0).1 ++ List.replicate (gen l 0).2 41).length + 2, 0) := by
  have e : unq (40 :: ((gen l 0).1 ++ List.replicate (gen l 0).2 41 ++ [41])).length 1 ((gen l 0).1 ++ List.replicate (gen l 0).2 41 ++ [41]) [] = some ((gen l 0).1 ++ List.replicate (gen l 0).2 41, []) := by
    have h1 := unq_gen l 0 (2 + (gen l 0).2) (List.replicate (gen l 0).2 41 ++ [41]) []
    have h2 := unq_close (gen l 0).2 2 [41] (gen l 0).1
    have h3 : unq 2 1 [41] ((gen l 0).1 ++ List.replicate (gen l 0).2 41) = some ((gen l 0).1 ++ List.replicate (gen l 0).2 41, []) := by simp [unq]
    rw [List.nil_append, h2, h3] at h1
    rw [← h1, List.append_assoc]
    congr 1
    simp
    omega
  rw [unquoteT, if_pos rfl, e]
  simp only
  rw [if_neg (by omega)]
  simp
  omega

theorem nests_tells (H : B.H_chaselaw03_LexNests T) (hwf : st.Wf) {v : AV} {l : List UInt8} (hv : InL st.h v l) (hl : l.length < 9223372036854775808) : Tells T st (.fn 60 [] []) [v] (.bool true) := by
  refine tells_of H.e H.f rfl ?_
  simp [B.chaselaw03_LexNests, go_sem]
  refine (works_tells H.chaselaw03_works hwf).use fun s1 x1 => ?_
  rcases hv with ⟨rfl, rfl⟩ | ⟨n, full, rfl, h2, h3⟩
  · simp [go_sem, asubL, abounds, bnd, abound, topOf, subCap]
    refine (nests_loop (st0 := st) (l := []) (v := .nilslice) (by simp) 0 0 0 [] _ s1 (by simp) (by simp) (by simp) x1 (.inl ⟨rfl, rfl⟩) (by simp [go_sem]) (by simp [go_sem]) (by simp [go_sem]) (by simp [go_sem]) (by simp [go_sem])).mono ?_
    rintro x e s2 ⟨rfl, x2, g3, g4, g5, g6⟩
    rw [List.drop_zero] at g3 g4 g5 g6
    rw [List.nil_append] at g3
    have hnb := nest_back [] (by simp; omega)
    generalize gen [] 0 = G at g3 g4 g5 g6 hnb
    have hcall : call T (.fn 13 [] []) [.str [41], .int .i64 (G.2 : Int)] s2 = some (.str (List.replicate G.2 41), s2) := by
      rw [rep_call H.strings_Repeat (by omega) (by omega) (by simp; omega), Int.toNat_natCast, repeatL_c]
    simp [go_sem, g3, g4, hcall]
    rw [if_pos (by omega)]
    simp [go_sem]
    rw [if_pos (by omega)]
    simp [go_sem]
    rw [if_pos (by omega)]
    simp [go_sem]
    have hl1 : (40 :: (G.1 ++ List.replicate G.2 41 ++ [41])).length < 1000000000000 := by simp; omega
    simp only [List.append_assoc] at hnb hl1
    refine (unq_call H.lex_Unquote x2.wf hnb hl1).use fun s3 x3 => ?_
    simp [go_sem, seq8_eq]
    refine ⟨?_, x2.trans x3⟩
    simp only [List.length_nil] at g6
    rw [wrap64' (by omega) (by omega)]
  · obtain ⟨k, hk⟩ : ∃ k, k = min l.length 300 := ⟨_, rfl⟩
    have hmin : (if (300 : Int) < (l.length : Int) then 300 else (l.length : Int)) = (k : Int) := by rw [hk]; split <;> omega
    have hle : l.length ≤ full.length := by
      have := congrArg List.length h3
      rw [List.length_take] at this; omega
    have hk2 : (l.take k).length = k := by rw [List.length_take]; omega
    have hv2 : InL s1.h (.slice n 0 k .unk) (l.take k) := .inr ⟨n, full, by rw [hk2], x1.get hwf h2, by rw [hk2]; conv => lhs; rw [h3]; rw [List.take_take, Nat.min_eq_left (by omega)]⟩
    have hsub : asubL 1 n 0 l.length .unk none (some (.int .i64 (k : Int))) none = some (.slice n 0 k .unk) := by
      simp only [asubL]
      rw [abounds_hi (by omega) (show (k : Int) ≤ (topOf l.length .unk : Nat) by show (k : Int) ≤ (l.length : Nat); omega)]
      simp [subCap]
    simp [go_sem, hmin, hsub]
    refine (nests_loop (st0 := st) (l := l.take k) (v := .slice n 0 k .unk) (by omega) k 0 0 [] _ s1 (by omega) (by simp) (by simp) x1 hv2 (by simp [go_sem]) (by simp [go_sem]) (by simp [go_sem]) (by simp [go_sem, hk2]) (by simp [go_sem])).mono ?_
    rintro x e s2 ⟨rfl, x2, g3, g4, g5, g6⟩
    rw [List.drop_zero] at g3 g4 g5 g6
    rw [List.nil_append] at g3
    have hnb := nest_back (l.take k) (by simp; omega)
    generalize gen (l.take k) 0 = G at g3 g4 g5 g6 hnb
    have hcall : call T (.fn 13 [] []) [.str [41], .int .i64 (G.2 : Int)] s2 = some (.str (List.replicate G.2 41), s2) := by
      rw [rep_call H.strings_Repeat (by omega) (by omega) (by simp; omega), Int.toNat_natCast, repeatL_c]
    simp [go_sem, g3, g4, hcall]
    rw [if_pos (by omega)]
    simp [go_sem]
    rw [if_pos (by omega)]
    simp [go_sem]
    rw [if_pos (by omega)]
    simp [go_sem]
    have hl1 : (40 :: (G.1 ++ List.replicate G.2 41 ++ [41])).length < 1000000000000 := by simp; omega
    simp only [List.append_assoc] at hnb hl1
    refine (unq_call H.lex_Unquote x2.wf hnb hl1).use fun s3 x3 => ?_
    simp [go_sem, seq8_eq]
    refine ⟨?_, x2.trans x3⟩
    simp only [List.length_nil] at g6
    rw [wrap64' (by omega) (by omega)]
end Go.Ev

/- Octets among the arguments: what they are, and the names of their blocks. -/
namespace Go.Ev
open Go Go.RowKit Go.ChangeShapes Go.WideShapes Go.Deep Go.Joins
set_option linter.unusedVariables false
set_option linter.unusedSimpArgs false

/-- One block that is only read. -/
def nuOne (a : Addr) : Nu := ⟨fun n => if n = 2 then some a else none, fun _ => 0⟩
def stOne (cs : List AV) : St := ⟨[(2, .ro cs)], 3⟩

theorem stOne_wf (cs : List AV) : (stOne cs).Wf := ⟨(fun n o h => by
  simp only [stOne, hget] at h ⊢
  split at h
  · rename_i e; omega
  · cases h), (by simp [stOne])⟩
theorem stNone_wf (n : Nat) : St.Wf ⟨[], n⟩ := ⟨(fun n o h => by cases h), (by simp)⟩

theorem sr_one {X : Cx} {w : World} {a : Addr} {cs : List AV} {us : Array Value} {t : TypeId} {fz : Nat × Nat} (hb : w.heap[a.block]? = some (.cells us t fz))
    (hc : ∀ (i : Nat) (x : AV), cs[i]? = some x → ∃ u, w.cell? ⟨a.block, a.off + i, none⟩ = some u ∧ VR X (nuOne a) x u) : SR chkD X (nuOne a) (stOne cs) w := by
  refine ⟨⟨?_, ?_⟩, ?_⟩
  · intro n o h
    simp only [stOne, hget] at h
    split at h
    · rename_i e
      subst e
      injection h with h
      subst h
      exact ⟨a, by simp [nuOne], ⟨us, t, fz, hb⟩, hc⟩
    · cases h
  · intro n m o p x y h1 h2 h3
    simp only [stOne, hget] at h1
    split at h1
    · injection h1 with h1; subst h1; cases h3
    · cases h1
  · intro n hn
    simp only [stOne] at hn
    simp only [nuOne]
    rw [if_neg (by omega)]
theorem own_one {a : Addr} {cs : List AV} (b : Nat) : ¬ Own (nuOne a) (stOne cs).h b := fun ⟨n, o, x, h1, h2, _⟩ => by
  simp only [stOne, hget] at h1
  split at h1
  · injection h1 with h1; subst h1; cases h2
  · cases h1

theorem wf_u8 {n : Int} (h : (Lit.int .u8 n).wf = true) : 0 ≤ n ∧ n < 256 := by
  simp [Lit.wf, IntKind.min, IntKind.max, IntKind.signed, IntKind.bits] at h
  omega


section
variable {H : Type} {enc : TypeId × Value → H} {P : Program} {w : World} {base : Nat} {spare : Nat → Bool} {held : Bool}

/-- An octet among the arguments. -/
theorem octet_open {t : TypeId} (ht : P.underlying t = some (.int .u8)) (hc : P.cellsOf t = 1) {fuel : Nat} {cs : List Value} {x : DataW H × List MemPlace} (h : DataW.trod enc P w base spare held fuel t cs = some x) :
    ∃ n : Nat, n < 256 ∧ cs = [.int .u8 (n : Int)] := by
  obtain ⟨n, h2, _, h3⟩ := DataW.trod_int ht h
  have h4 := wf_u8 h3
  obtain ⟨k, rfl⟩ := Int.eq_ofNat_of_zero_le h4.1
  exact ⟨k, by omega, h2⟩

/-- A slice of octets among the arguments. -/
theorem octets_open {X : Cx} {r : Reach} {b0 : Nat} {tb tsl : TypeId} {v : Value} {d : DataW H} {p : List MemPlace} (hP : X.P = P) (hb : P.underlying tb = some (.int .u8)) (hbc : P.cellsOf tb = 1) (hsl : P.underlying tsl = some (.slice tb))
    (hv : Value.okWide P w r b0 tsl v) (h : DataW.Trod enc P w base spare held tsl v d p) :
    ∃ (N : Nu) (st : St) (sv : AV) (l : List UInt8), SR chkD X N st w ∧ st.Wf ∧ (∀ b, ¬ Own N st.h b) ∧ InL st.h sv l ∧ l.length < 9223372036854775808 ∧ VR X N sv v := by
  obtain ⟨a0, len0, cap0, rfl⟩ := okWide_slice hsl hv
  obtain ⟨fuel, hf⟩ := h
  rcases open_slice hsl hf with ⟨hcs, _⟩ | ⟨a, len, cap, m, n2, D, Pl, hcs, hba, hl, hm, hmm, _, hel⟩
  · simp [Value.cells] at hcs
    obtain ⟨rfl, rfl, rfl⟩ := hcs
    exact ⟨Nu.none, ⟨[], 3⟩, .nilslice, [], sr_none 3 w, stNone_wf 3, own_none, .inl ⟨rfl, rfl⟩, by decide, rfl⟩
  · simp [Value.cells] at hcs
    obtain ⟨rfl, rfl, rfl⟩ := hcs
    have hcell : Cell.okWide P w r b0 tsl (.slice (some a) len0 cap0) := by
      simpa only [Value.okWide, hsl] using hv
    have hhas : a.spot = none ∧ ∃ us tt fz, w.heap[a.block]? = some (.cells us tt fz) := by
      simp only [Cell.okWide, hsl, Cell.ok, World.has] at hcell
      obtain ⟨_, _, _, h3, row, cells, h4, _⟩ := hcell
      refine ⟨h3, ?_⟩
      unfold World.shape? at h4
      split at h4
      · exact ⟨_, _, _, by assumption⟩
      · cases h4
    obtain ⟨hsp, us, tt, fz, hheap⟩ := hhas
    obtain ⟨blk, off, spot⟩ := a
    simp only at hsp
    subst hsp
    have hmlen : len0 ≤ m := by rw [hmm]; split <;> omega
    have hoct : ∀ j, j < len0 → ∃ x : Nat, x < 256 ∧ w.cell? ⟨blk, off + j, none⟩ = some (.int .u8 (x : Int)) := by
      intro j hj
      obtain ⟨cs', h3, h4⟩ := hel j (by omega)
      rw [hbc] at h3
      obtain ⟨x, h7, h8⟩ := octet_open hb hbc h4
      obtain ⟨_, _, h9⟩ := World.cells?_some h3
      have h10 := h9 0 (by omega)
      rw [h8] at h10
      refine ⟨x, h7, ?_⟩
      simp only [List.getElem?_cons_zero, Nat.mul_one] at h10
      rw [Deep.add_add] at h10
      rw [Nat.add_zero] at h10
      unfold Addr.add at h10
      split at h10
      · rename_i hj0; rw [hj0]; exact h10
      · exact h10
    obtain ⟨f, hff⟩ := Deep.choose_lt (α := Nat) (p := fun j x => x < 256 ∧ w.cell? ⟨blk, off + j, none⟩ = some (.int .u8 (x : Int))) hoct
    let l : List UInt8 := (List.range len0).map fun j => UInt8.ofNat (f j)
    have hll : l.length = len0 := by simp [l]
    have hxs : (u8s l).length = len0 := by simp [u8s, l]
    refine ⟨nuOne ⟨blk, off, none⟩, stOne (u8s l), .slice 2 0 len0 .unk, l, ?_, stOne_wf _, own_one, .inr ⟨2, l, by rw [hll], by simp [stOne, hget], by rw [List.take_of_length_le (Nat.le_refl _)]⟩, ?_, ?_⟩
    · refine sr_one hheap (fun i x hx => ?_)
      have hi : i < len0 := by rw [← hxs]; exact (List.getElem?_eq_some_iff.1 hx).1
      have hf := hff i hi
      have hx' : x = .int .u8 ((f i : Nat) : Int) := by
        simp [u8s, l, hi] at hx
        rw [← hx]
        have : f i % 256 = f i := Nat.mod_eq_of_lt hf.1
        congr 1
        omega
      subst hx'
      exact ⟨_, hf.2, rfl⟩
    · have : maxLen ≤ 9223372036854775807 := by decide
      omega
    · exact ⟨⟨blk, off, none⟩, cap0, rfl, rfl, hl, trivial⟩
end
end Go.Ev

/- The functions that the law LexNests reaches: their numbers, and the check of each body, printed by a program of this work. -/
namespace Go.Ev.LexNests
open Go Go.Proofs Go.Ev
def phiT : NT := (.node (.node (.node (.node (.node (.node .nil 13 18 .nil) 60 5 (.node .nil 62 7 .nil)) 63 8 (.node (.node .nil 65 10 .nil) 67 12 .nil)) 69 14 (.node (.node (.node 
  .nil 71 16 .nil) 73 19 (.node .nil 74 20 .nil)) 75 21 (.node (.node .nil 76 22 .nil) 77 23 .nil))) 82 28 (.node (.node (.node (.node .nil 84 30 .nil) 86 32 (.node .nil 87 33 .nil)) 
  91 37 (.node (.node .nil 92 38 .nil) 93 44 .nil)) 94 40 (.node (.node (.node .nil 95 45 .nil) 96 46 (.node .nil 97 47 .nil)) 98 48 (.node (.node .nil 99 49 .nil) 100 50 .nil)))) 106 
  57 (.node (.node (.node (.node (.node .nil 107 58 .nil) 109 60 (.node .nil 110 65 .nil)) 111 66 (.node (.node .nil 112 67 .nil) 113 70 .nil)) 114 71 (.node (.node (.node .nil 115 72 
  .nil) 116 73 (.node .nil 117 75 .nil)) 118 76 (.node (.node .nil 119 78 .nil) 120 85 .nil))) 121 86 (.node (.node (.node (.node .nil 122 79 .nil) 123 63 (.node .nil 140 68 .nil)) 141 
  69 (.node (.node .nil 142 80 .nil) 143 81 .nil)) 144 82 (.node (.node (.node .nil 145 83 .nil) 146 84 .nil) 147 90 (.node (.node .nil 148 88 .nil) 149 87 .nil)))))
def tauT : NT := (.node (.node (.node (.node (.node (.node (.node (.node .nil 0 0 .nil) 1 1 .nil) 2 2 (.node .nil 3 3 .nil)) 4 4 (.node (.node .nil 5 5 .nil) 6 6 (.node .nil 7 7 .nil))) 
  8 8 (.node (.node (.node (.node .nil 9 9 .nil) 10 10 .nil) 11 11 (.node .nil 12 12 .nil)) 13 13 (.node (.node .nil 14 14 .nil) 15 15 (.node .nil 16 16 .nil)))) 17 17 (.node (.node (.node 
  (.node (.node .nil 18 18 .nil) 19 19 .nil) 20 20 (.node .nil 21 21 .nil)) 25 23 (.node (.node .nil 27 80 .nil) 28 72 (.node .nil 30 27 .nil))) 35 22 (.node (.node (.node .nil 37 33 
  .nil) 42 37 (.node .nil 43 76 .nil)) 44 24 (.node (.node .nil 45 49 .nil) 48 124 (.node .nil 79 73 .nil))))) 80 74 (.node (.node (.node (.node (.node (.node .nil 81 75 .nil) 82 66 .nil) 
  83 67 (.node .nil 84 68 .nil)) 85 77 (.node (.node .nil 86 69 .nil) 87 70 (.node .nil 88 78 .nil))) 89 79 (.node (.node (.node (.node .nil 102 93 .nil) 103 94 .nil) 104 95 (.node .nil 
  105 96 .nil)) 106 97 (.node (.node .nil 107 98 .nil) 108 92 (.node .nil 110 90 .nil)))) 114 115 (.node (.node (.node (.node (.node .nil 115 116 .nil) 116 117 .nil) 120 89 (.node .nil 
  121 128 .nil)) 122 129 (.node (.node .nil 123 130 .nil) 124 131 (.node .nil 125 132 .nil))) 126 133 (.node (.node (.node .nil 127 134 .nil) 128 135 (.node .nil 129 136 .nil)) 130 137 
  (.node (.node .nil 131 138 .nil) 132 139 (.node .nil 133 25 .nil)))))) 134 26 (.node (.node (.node (.node (.node (.node (.node .nil 135 28 .nil) 136 29 .nil) 137 30 (.node .nil 138 
  31 .nil)) 139 32 (.node (.node .nil 140 34 .nil) 141 35 (.node .nil 142 36 .nil))) 143 38 (.node (.node (.node (.node .nil 144 39 .nil) 145 40 .nil) 146 41 (.node .nil 147 42 .nil)) 
  148 43 (.node (.node .nil 149 44 .nil) 150 45 (.node .nil 151 46 .nil)))) 152 47 (.node (.node (.node (.node (.node .nil 153 48 .nil) 154 50 .nil) 155 51 (.node .nil 156 52 .nil)) 157 
  53 (.node (.node .nil 158 54 .nil) 159 55 (.node .nil 160 56 .nil))) 161 57 (.node (.node (.node .nil 162 58 .nil) 163 59 (.node .nil 164 60 .nil)) 165 61 (.node (.node .nil 166 62 
  .nil) 167 63 (.node .nil 168 64 .nil))))) 169 65 (.node (.node (.node (.node (.node (.node .nil 170 71 .nil) 171 81 .nil) 172 82 (.node .nil 173 83 .nil)) 174 84 (.node (.node .nil 
  175 85 .nil) 176 86 (.node .nil 177 87 .nil))) 178 88 (.node (.node (.node (.node .nil 179 91 .nil) 180 99 .nil) 181 100 (.node .nil 182 101 .nil)) 183 102 (.node (.node .nil 184 103 
  .nil) 185 105 (.node .nil 186 106 .nil)))) 187 107 (.node (.node (.node (.node (.node .nil 188 108 .nil) 189 109 .nil) 190 110 (.node .nil 191 111 .nil)) 192 112 (.node (.node .nil 
  193 113 .nil) 194 114 (.node .nil 195 118 .nil))) 196 119 (.node (.node (.node .nil 197 120 .nil) 198 121 (.node .nil 199 122 .nil)) 200 123 (.node (.node .nil 201 125 .nil) 202 126 
  (.node .nil 203 127 .nil)))))))
def gamT : NT := (.node .nil 0 0 .nil)
noncomputable def cx : Cx := ⟨Try.prog, phiT.get, tauT.get, gamT.get⟩
theorem k_chaselaw03_LexNests : FnOK cx 60 B.chaselaw03_LexNests := fnOK_of (by kernel_rfl) Try.func5 (by kernel_rfl)
theorem k_chaselaw03_works : FnOK cx 62 B.chaselaw03_works := fnOK_of (by kernel_rfl) Try.func7 (by kernel_rfl)
theorem k_lex_Number : FnOK cx 63 B.lex_Number := fnOK_of (by kernel_rfl) Try.func8 (by kernel_rfl)
theorem k_lex_Word : FnOK cx 65 B.lex_Word := fnOK_of (by kernel_rfl) Try.func10 (by kernel_rfl)
theorem k_lex_Regular : FnOK cx 67 B.lex_Regular := fnOK_of (by kernel_rfl) Try.func12 (by kernel_rfl)
theorem k_lex_Unquote : FnOK cx 69 B.lex_Unquote := fnOK_of (by kernel_rfl) Try.func14 (by kernel_rfl)
theorem k_lex_Quote : FnOK cx 71 B.lex_Quote := fnOK_of (by kernel_rfl) Try.func16 (by kernel_rfl)
theorem k_chaselaw03_number : FnOK cx 73 B.chaselaw03_number := fnOK_of (by kernel_rfl) Try.func19 (by kernel_rfl)
theorem k_lex_Check : FnOK cx 74 B.lex_Check := fnOK_of (by kernel_rfl) Try.func20 (by kernel_rfl)
theorem k_lex_numeral_whole : FnOK cx 75 B.lex_numeral_whole := fnOK_of (by kernel_rfl) Try.func21 (by kernel_rfl)
theorem k_lex_numeral_radix : FnOK cx 76 B.lex_numeral_radix := fnOK_of (by kernel_rfl) Try.func22 (by kernel_rfl)
theorem k_lex_numeral_decimal : FnOK cx 77 B.lex_numeral_decimal := fnOK_of (by kernel_rfl) Try.func23 (by kernel_rfl)
theorem k_lex_regular : FnOK cx 82 B.lex_regular := fnOK_of (by kernel_rfl) Try.func28 (by kernel_rfl)
theorem k_lex_quoted_next : FnOK cx 86 B.lex_quoted_next := fnOK_of (by kernel_rfl) Try.func32 (by kernel_rfl)
theorem k_lex_quoted_run : FnOK cx 87 B.lex_quoted_run := fnOK_of (by kernel_rfl) Try.func33 (by kernel_rfl)
theorem k_strings_Builder_WriteByte : FnOK cx 91 B.strings_Builder_WriteByte := fnOK_of (by kernel_rfl) Try.func37 (by kernel_rfl)
theorem k_strings_Builder_String : FnOK cx 92 B.strings_Builder_String := fnOK_of (by kernel_rfl) Try.func38 (by kernel_rfl)
theorem k_lex_right : FnOK cx 93 B.lex_right := fnOK_of (by kernel_rfl) Try.func44 (by kernel_rfl)
theorem k_strings_HasPrefix : FnOK cx 94 B.strings_HasPrefix := fnOK_of (by kernel_rfl) Try.func40 (by kernel_rfl)
theorem k_lex_count : FnOK cx 95 B.lex_count := fnOK_of (by kernel_rfl) Try.func45 (by kernel_rfl)
theorem k_lex_numeral_answer : FnOK cx 96 B.lex_numeral_answer := fnOK_of (by kernel_rfl) Try.func46 (by kernel_rfl)
theorem k_strings_Cut : FnOK cx 97 B.strings_Cut := fnOK_of (by kernel_rfl) Try.func47 (by kernel_rfl)
theorem k_strings_ContainsAny : FnOK cx 98 B.strings_ContainsAny := fnOK_of (by kernel_rfl) Try.func48 (by kernel_rfl)
theorem k_lex_pattern : FnOK cx 99 B.lex_pattern := fnOK_of (by kernel_rfl) Try.func49 (by kernel_rfl)
theorem k_real_Parse : FnOK cx 100 B.real_Parse := fnOK_of (by kernel_rfl) Try.func50 (by kernel_rfl)
theorem k_lex_quoted_escape : FnOK cx 106 B.lex_quoted_escape := fnOK_of (by kernel_rfl) Try.func57 (by kernel_rfl)
theorem k_lex_quoted_line : FnOK cx 107 B.lex_quoted_line := fnOK_of (by kernel_rfl) Try.func58 (by kernel_rfl)
theorem k_strings_Builder_copyCheck : FnOK cx 109 B.strings_Builder_copyCheck := fnOK_of (by kernel_rfl) Try.func60 (by kernel_rfl)
theorem k_real_Is : FnOK cx 110 B.real_Is := fnOK_of (by kernel_rfl) Try.func65 (by kernel_rfl)
theorem k_lex_named : FnOK cx 111 B.lex_named := fnOK_of (by kernel_rfl) Try.func66 (by kernel_rfl)
theorem k_lex_digits : FnOK cx 112 B.lex_digits := fnOK_of (by kernel_rfl) Try.func67 (by kernel_rfl)
theorem k_real_scanner_decimal : FnOK cx 113 B.real_scanner_decimal := fnOK_of (by kernel_rfl) Try.func70 (by kernel_rfl)
theorem k_real_front : FnOK cx 114 B.real_front := fnOK_of (by kernel_rfl) Try.func71 (by kernel_rfl)
theorem k_real_fraction : FnOK cx 115 B.real_fraction := fnOK_of (by kernel_rfl) Try.func72 (by kernel_rfl)
theorem k_real_double : FnOK cx 116 B.real_double := fnOK_of (by kernel_rfl) Try.func73 (by kernel_rfl)
theorem k_lex_letters : FnOK cx 117 B.lex_letters := fnOK_of (by kernel_rfl) Try.func75 (by kernel_rfl)
theorem k_lex_digits_1 : FnOK cx 119 B.lex_digits_1 := fnOK_of (by kernel_rfl) Try.func78 (by kernel_rfl)
theorem k_real_scanner_one : FnOK cx 120 B.real_scanner_one := fnOK_of (by kernel_rfl) Try.func85 (by kernel_rfl)
theorem k_real_scanner_digits : FnOK cx 121 B.real_scanner_digits := fnOK_of (by kernel_rfl) Try.func86 (by kernel_rfl)
theorem k_lex_value : FnOK cx 122 B.lex_value := fnOK_of (by kernel_rfl) Try.func79 (by kernel_rfl)
theorem k_stringslite_HasPrefix : FnOK cx 123 B.stringslite_HasPrefix := fnOK_of (by kernel_rfl) Try.func63 (by kernel_rfl)
theorem k_stringslite_Cut : FnOK cx 140 B.stringslite_Cut := fnOK_of (by kernel_rfl) Try.func68 (by kernel_rfl)
theorem k_strings_IndexAny : FnOK cx 141 B.strings_IndexAny := fnOK_of (by kernel_rfl) Try.func69 (by kernel_rfl)
theorem k_strings_IndexRune : FnOK cx 143 B.strings_IndexRune := fnOK_of (by kernel_rfl) Try.func81 (by kernel_rfl)
theorem k_strings_shouldUseASCIISet : FnOK cx 144 B.strings_shouldUseASCIISet := fnOK_of (by kernel_rfl) Try.func82 (by kernel_rfl)
theorem k_strings_makeASCIISet : FnOK cx 145 B.strings_makeASCIISet := fnOK_of (by kernel_rfl) Try.func83 (by kernel_rfl)
theorem k_strings_asciiSet_contains : FnOK cx 146 B.strings_asciiSet_contains := fnOK_of (by kernel_rfl) Try.func84 (by kernel_rfl)
theorem k_unicode_utf8_ValidRune : FnOK cx 147 B.unicode_utf8_ValidRune := fnOK_of (by kernel_rfl) Try.func90 (by kernel_rfl)
theorem k_bytealg_Cutover : FnOK cx 148 B.bytealg_Cutover := fnOK_of (by kernel_rfl) Try.func88 (by kernel_rfl)
def fnT : FT := (.node (.node (.node (.node (.node (.node .nil 60 B.chaselaw03_LexNests .nil) 62 B.chaselaw03_works (.node .nil 63 B.lex_Number .nil)) 65 B.lex_Word (.node (.node .nil 
  67 B.lex_Regular .nil) 69 B.lex_Unquote .nil)) 71 B.lex_Quote (.node (.node (.node .nil 73 B.chaselaw03_number .nil) 74 B.lex_Check .nil) 75 B.lex_numeral_whole (.node (.node .nil 76 
  B.lex_numeral_radix .nil) 77 B.lex_numeral_decimal .nil))) 82 B.lex_regular (.node (.node (.node (.node .nil 86 B.lex_quoted_next .nil) 87 B.lex_quoted_run .nil) 91 B.strings_Builder_WriteByte 
  (.node (.node .nil 92 B.strings_Builder_String .nil) 93 B.lex_right .nil)) 94 B.strings_HasPrefix (.node (.node (.node .nil 95 B.lex_count .nil) 96 B.lex_numeral_answer .nil) 97 B.strings_Cut 
  (.node (.node .nil 98 B.strings_ContainsAny .nil) 99 B.lex_pattern .nil)))) 100 B.real_Parse (.node (.node (.node (.node (.node .nil 106 B.lex_quoted_escape .nil) 107 B.lex_quoted_line 
  (.node .nil 109 B.strings_Builder_copyCheck .nil)) 110 B.real_Is (.node (.node .nil 111 B.lex_named .nil) 112 B.lex_digits .nil)) 113 B.real_scanner_decimal (.node (.node (.node .nil 
  114 B.real_front .nil) 115 B.real_fraction .nil) 116 B.real_double (.node (.node .nil 117 B.lex_letters .nil) 119 B.lex_digits_1 .nil))) 120 B.real_scanner_one (.node (.node (.node 
  (.node .nil 121 B.real_scanner_digits .nil) 122 B.lex_value .nil) 123 B.stringslite_HasPrefix (.node (.node .nil 140 B.stringslite_Cut .nil) 141 B.strings_IndexAny .nil)) 143 B.strings_IndexRune 
  (.node (.node (.node .nil 144 B.strings_shouldUseASCIISet .nil) 145 B.strings_makeASCIISet .nil) 146 B.strings_asciiSet_contains (.node (.node .nil 147 B.unicode_utf8_ValidRune .nil) 
  148 B.bytealg_Cutover .nil)))))
theorem fnT_all : fnT.All (FnOK cx) := ⟨⟨⟨⟨⟨⟨trivial, k_chaselaw03_LexNests, trivial⟩, k_chaselaw03_works, ⟨trivial, k_lex_Number, trivial⟩⟩, k_lex_Word, ⟨⟨trivial, k_lex_Regular, trivial⟩, 
  k_lex_Unquote, trivial⟩⟩, k_lex_Quote, ⟨⟨⟨trivial, k_chaselaw03_number, trivial⟩, k_lex_Check, trivial⟩, k_lex_numeral_whole, ⟨⟨trivial, k_lex_numeral_radix, trivial⟩, k_lex_numeral_decimal, 
  trivial⟩⟩⟩, k_lex_regular, ⟨⟨⟨⟨trivial, k_lex_quoted_next, trivial⟩, k_lex_quoted_run, trivial⟩, k_strings_Builder_WriteByte, ⟨⟨trivial, k_strings_Builder_String, trivial⟩, k_lex_right, 
  trivial⟩⟩, k_strings_HasPrefix, ⟨⟨⟨trivial, k_lex_count, trivial⟩, k_lex_numeral_answer, trivial⟩, k_strings_Cut, ⟨⟨trivial, k_strings_ContainsAny, trivial⟩, k_lex_pattern, trivial⟩⟩⟩⟩, 
  k_real_Parse, ⟨⟨⟨⟨⟨trivial, k_lex_quoted_escape, trivial⟩, k_lex_quoted_line, ⟨trivial, k_strings_Builder_copyCheck, trivial⟩⟩, k_real_Is, ⟨⟨trivial, k_lex_named, trivial⟩, k_lex_digits, 
  trivial⟩⟩, k_real_scanner_decimal, ⟨⟨⟨trivial, k_real_front, trivial⟩, k_real_fraction, trivial⟩, k_real_double, ⟨⟨trivial, k_lex_letters, trivial⟩, k_lex_digits_1, trivial⟩⟩⟩, k_real_scanner_one, 
  ⟨⟨⟨⟨trivial, k_real_scanner_digits, trivial⟩, k_lex_value, trivial⟩, k_stringslite_HasPrefix, ⟨⟨trivial, k_stringslite_Cut, trivial⟩, k_strings_IndexAny, trivial⟩⟩, k_strings_IndexRune, 
  ⟨⟨⟨trivial, k_strings_shouldUseASCIISet, trivial⟩, k_strings_makeASCIISet, trivial⟩, k_strings_asciiSet_contains, ⟨⟨trivial, k_unicode_utf8_ValidRune, trivial⟩, k_bytealg_Cutover, trivial⟩⟩⟩⟩⟩
def enT : Nat → Option Entry := fun k => if k = 13 then some B.E_strings_Repeat else if k = 84 then some B.E_strings_IndexByte else if k = 118 then some B.E_abi_NoEscape else if k = 142 then some B.E_stringslite_Index else none
def tab : Tab := ⟨fnT.get, enT⟩
theorem has_strings_Repeat : B.H_strings_Repeat tab := ⟨rfl⟩
theorem has_strings_IndexByte : B.H_strings_IndexByte tab := ⟨rfl⟩
theorem has_abi_NoEscape : B.H_abi_NoEscape tab := ⟨rfl⟩
theorem has_stringslite_Index : B.H_stringslite_Index tab := ⟨rfl⟩
theorem has_lex_quoted_next : B.H_lex_quoted_next tab := ⟨rfl, rfl⟩
theorem has_strings_Builder_String : B.H_strings_Builder_String tab := ⟨rfl, rfl⟩
theorem has_lex_quoted_line : B.H_lex_quoted_line tab := ⟨rfl, rfl⟩
theorem has_lex_numeral_answer : B.H_lex_numeral_answer tab := ⟨rfl, rfl⟩
theorem has_lex_Regular : B.H_lex_Regular tab := ⟨rfl, rfl, has_strings_IndexByte⟩
theorem has_strings_Builder_copyCheck : B.H_strings_Builder_copyCheck tab := ⟨rfl, rfl, has_abi_NoEscape⟩
theorem has_real_Is : B.H_real_Is tab := ⟨rfl, rfl⟩
theorem has_lex_letters : B.H_lex_letters tab := ⟨rfl, rfl⟩
theorem has_stringslite_HasPrefix : B.H_stringslite_HasPrefix tab := ⟨rfl, rfl⟩
theorem has_stringslite_Cut : B.H_stringslite_Cut tab := ⟨rfl, rfl, has_stringslite_Index⟩
theorem has_real_front : B.H_real_front tab := ⟨rfl, rfl⟩
theorem has_real_fraction : B.H_real_fraction tab := ⟨rfl, rfl⟩
theorem has_real_double : B.H_real_double tab := ⟨rfl, rfl⟩
theorem has_strings_shouldUseASCIISet : B.H_strings_shouldUseASCIISet tab := ⟨rfl, rfl⟩
theorem has_strings_makeASCIISet : B.H_strings_makeASCIISet tab := ⟨rfl, rfl⟩
theorem has_strings_asciiSet_contains : B.H_strings_asciiSet_contains tab := ⟨rfl, rfl⟩
theorem has_real_scanner_one : B.H_real_scanner_one tab := ⟨rfl, rfl⟩
theorem has_real_scanner_digits : B.H_real_scanner_digits tab := ⟨rfl, rfl, has_real_scanner_one⟩
theorem has_lex_value : B.H_lex_value tab := ⟨rfl, rfl⟩
theorem has_unicode_utf8_ValidRune : B.H_unicode_utf8_ValidRune tab := ⟨rfl, rfl⟩
theorem has_bytealg_Cutover : B.H_bytealg_Cutover tab := ⟨rfl, rfl⟩
theorem has_lex_regular : B.H_lex_regular tab := ⟨rfl, rfl, has_lex_Regular⟩
theorem has_strings_Builder_WriteByte : B.H_strings_Builder_WriteByte tab := ⟨rfl, rfl, has_strings_Builder_copyCheck⟩
theorem has_lex_quoted_escape : B.H_lex_quoted_escape tab := ⟨rfl, rfl, has_lex_quoted_next, has_lex_letters, has_lex_quoted_line⟩
theorem has_strings_HasPrefix : B.H_strings_HasPrefix tab := ⟨rfl, rfl, has_stringslite_HasPrefix⟩
theorem has_strings_Cut : B.H_strings_Cut tab := ⟨rfl, rfl, has_stringslite_Cut⟩
theorem has_real_scanner_decimal : B.H_real_scanner_decimal tab := ⟨rfl, rfl, has_real_scanner_one, has_real_scanner_digits⟩
theorem has_lex_digits_1 : B.H_lex_digits_1 tab := ⟨rfl, rfl, has_lex_value⟩
theorem has_strings_IndexRune : B.H_strings_IndexRune tab := ⟨rfl, rfl, has_strings_IndexByte, has_unicode_utf8_ValidRune, has_bytealg_Cutover⟩
theorem has_lex_Quote : B.H_lex_Quote tab := ⟨rfl, rfl, has_strings_Builder_WriteByte, has_strings_Builder_String⟩
theorem has_lex_quoted_run : B.H_lex_quoted_run tab := ⟨rfl, rfl, has_lex_quoted_next, has_lex_quoted_escape, has_lex_quoted_line⟩
theorem has_real_Parse : B.H_real_Parse tab := ⟨rfl, rfl, has_real_scanner_decimal, has_real_front, has_real_fraction, has_real_double, has_real_Is⟩
theorem has_lex_digits : B.H_lex_digits tab := ⟨rfl, rfl, has_lex_digits_1⟩
theorem has_strings_IndexAny : B.H_strings_IndexAny tab := ⟨rfl, rfl, has_strings_IndexRune, has_strings_shouldUseASCIISet, has_strings_makeASCIISet, has_strings_asciiSet_contains⟩
theorem has_lex_Unquote : B.H_lex_Unquote tab := ⟨rfl, rfl, has_lex_quoted_next, has_lex_quoted_run⟩
theorem has_lex_count : B.H_lex_count tab := ⟨rfl, rfl, has_lex_digits⟩
theorem has_strings_ContainsAny : B.H_strings_ContainsAny tab := ⟨rfl, rfl, has_strings_IndexAny⟩
theorem has_lex_pattern : B.H_lex_pattern tab := ⟨rfl, rfl, has_real_Parse⟩
theorem has_lex_numeral_whole : B.H_lex_numeral_whole tab := ⟨rfl, rfl, has_strings_HasPrefix, has_lex_count, has_lex_numeral_answer⟩
theorem has_lex_numeral_radix : B.H_lex_numeral_radix tab := ⟨rfl, rfl, has_strings_Cut, has_lex_count, has_lex_numeral_answer⟩
theorem has_lex_numeral_decimal : B.H_lex_numeral_decimal tab := ⟨rfl, rfl, has_strings_ContainsAny, has_lex_pattern, has_real_Parse⟩
theorem has_lex_Number : B.H_lex_Number tab := ⟨rfl, rfl, has_lex_numeral_whole, has_lex_numeral_radix, has_lex_numeral_decimal⟩
theorem has_lex_Word : B.H_lex_Word tab := ⟨rfl, rfl, has_lex_regular, has_lex_Number⟩
theorem has_lex_named : B.H_lex_named tab := ⟨rfl, rfl, has_lex_regular, has_lex_Number⟩
theorem has_chaselaw03_number : B.H_chaselaw03_number tab := ⟨rfl, rfl, has_lex_Number⟩
theorem has_lex_right : B.H_lex_right tab := ⟨rfl, rfl, has_real_Is, has_lex_named⟩
theorem has_lex_Check : B.H_lex_Check tab := ⟨rfl, rfl, has_lex_right⟩
theorem has_chaselaw03_works : B.H_chaselaw03_works tab := ⟨rfl, rfl, has_chaselaw03_number, has_lex_Number, has_lex_Word, has_lex_Unquote, has_lex_Quote, has_lex_Check⟩
theorem has_chaselaw03_LexNests : B.H_chaselaw03_LexNests tab := ⟨rfl, rfl, has_chaselaw03_works, has_strings_Repeat, has_lex_Unquote⟩
theorem tabOK_all (ok13 : EntryOK chkD cx 13 B.E_strings_Repeat) (ok84 : EntryOK chkD cx 84 B.E_strings_IndexByte) (ok118 : EntryOK chkD cx 118 B.E_abi_NoEscape) (ok142 : EntryOK chkD cx 142 B.E_stringslite_Index) : TabOK chkD cx tab := tabOK_of fnT_all (fun f F h => by
  simp only [enT] at h
  by_cases e13 : f = 13
  · subst e13; simp only [if_true, Option.some.injEq] at h; subst h; exact ok13
  rw [if_neg e13] at h
  by_cases e84 : f = 84
  · subst e84; simp only [if_true, Option.some.injEq] at h; subst h; exact ok84
  rw [if_neg e84] at h
  by_cases e118 : f = 118
  · subst e118; simp only [if_true, Option.some.injEq] at h; subst h; exact ok118
  rw [if_neg e118] at h
  by_cases e142 : f = 142
  · subst e142; simp only [if_true, Option.some.injEq] at h; subst h; exact ok142
  rw [if_neg e142] at h
  cases h)
end Go.Ev.LexNests

/- DERIVED: THE SHELF's CONTRACTS AT THIS DUMP, IN PLAIN WORDS (tools/lay-plain.mjs out of 'TryShelf.lean', which tools/lay-shelf.mjs wrote): THE SAME DECLARATIONS UNDER THE SAME NAMES: 'import', 'namespace', 'open', 'def', 'theorem' AND NOTHING ELSE: no command of the shelf's: FOR A HAND-IN. Each laying: the table of numbers ('.._ren') and one theorem, a field a fact of the dump's own or the kernel's comparison; each contract: ONE APPLICATION. -/
namespace Go.Proofs
open Go.Shelf
def Try.lays137_ren : Go.Shelf.Ren := ⟨fun | 137 => 30 | 217 => 56 | 266 => 74 | n => n, fun | 9 => 9 | 5 => 5 | 3 => 3 | n => n, fun | n => n⟩
theorem Try.lays137 : Go.Proofs.Lays.n137 Try.prog Try.lays137_ren := {
  mixed := by kernel_rfl
  f137 := Try.func30.trans (congrArg some (by kernel_rfl))
  f217 := Try.func56.trans (congrArg some (by kernel_rfl))
  f266 := Try.func74.trans (congrArg some (by kernel_rfl))
  t3 := Try.underlying3
  a3 := Try.isAgg3
  z3 := Try.sizeOf3
  v3 := Try.zeroValue3
  t5 := Try.underlying5
  a5 := Try.isAgg5
  z5 := Try.sizeOf5
  v5 := Try.zeroValue5
  t9 := Try.underlying9
  a9 := Try.isAgg9
  z9 := Try.sizeOf9
  v9 := Try.zeroValue9 }
open Go.RowKit in
/-- strings.IndexByte: "IndexByte returns the index of the first instance of c in s, or -1 if c is not present in s.": IT RETURNS 'Lib.indexByte s c'; the world is as it was. (LAID: no walk: one application.) -/
theorem Try.strings_IndexByte (s : ByteArray) (c : Int) (w : World) :
    Calls Try.prog 30 #[.string s, .int .u8 c] w fun e w' => e = .returned (.int .i64 (Lib.indexByte s.data.toList c.toNat.toUInt8)) ∧ w' = w := Any.strings_IndexByte Try.lays137 s c w
def Try.lays219_ren : Go.Shelf.Ren := ⟨fun | 219 => 80 | 217 => 56 | 225 => 87 | 224 => 88 | 267 => 89 | 266 => 74 | 314 => 91 | n => n, fun | 9 => 9 | 3 => 3 | 4 => 4 | 5 => 5 | 46 => 73 | 146 => 94 | 51 => 93 | n => n, fun | 1 => 0 | n => n⟩
theorem Try.lays219 : Go.Proofs.Lays.n219 Try.prog Try.lays219_ren := {
  mixed := by kernel_rfl
  f217 := Try.func56.trans (congrArg some (by kernel_rfl))
  f219 := Try.func80.trans (congrArg some (by kernel_rfl))
  f224 := Try.func88.trans (congrArg some (by kernel_rfl))
  f225 := Try.func87.trans (congrArg some (by kernel_rfl))
  f266 := Try.func74.trans (congrArg some (by kernel_rfl))
  f267 := Try.func89.trans (congrArg some (by kernel_rfl))
  f314 := Try.func91.trans (congrArg some (by kernel_rfl))
  t3 := Try.underlying3
  a3 := Try.isAgg3
  z3 := Try.sizeOf3
  v3 := Try.zeroValue3
  t4 := Try.underlying4
  a4 := Try.isAgg4
  z4 := Try.sizeOf4
  v4 := Try.zeroValue4
  t5 := Try.underlying5
  a5 := Try.isAgg5
  z5 := Try.sizeOf5
  v5 := Try.zeroValue5
  t9 := Try.underlying9
  a9 := Try.isAgg9
  z9 := Try.sizeOf9
  v9 := Try.zeroValue9
  t46 := Try.underlying73
  a46 := Try.isAgg73
  z46 := Try.sizeOf73
  v46 := Try.zeroValue73
  t51 := Try.underlying93
  a51 := Try.isAgg93
  z51 := Try.sizeOf93
  v51 := Try.zeroValue93
  t146 := Try.underlying94
  a146 := Try.isAgg94
  z146 := Try.sizeOf94
  v146 := Try.zeroValue94
  g1 := by kernel_rfl }
open Go.RowKit Go.Lib in
/-- internal/stringslite.Index (what strings.Index calls) AT A substr OF ONE BYTE c: IT RETURNS 'Lib.indexByte s c'; the world is as it was. (LAID: no walk: one application.) -/
theorem Try.stringslite_Index_one (s : ByteArray) (c : UInt8) (w : World) :
    Calls Try.prog 80 #[.string s, .string ⟨#[c]⟩] w fun e w' => e = .returned (.int .i64 (Lib.indexByte s.data.toList c)) ∧ w' = w := Any.stringslite_Index_one Try.lays219 s c w
def Try.lays105_ren : Go.Shelf.Ren := ⟨fun | 105 => 18 | 212 => 39 | 99 => 40 | 165 => 41 | 166 => 42 | 170 => 43 | 169 => 38 | 263 => 61 | 264 => 62 | 206 => 63 | 240 => 60 | 241 => 64 | 276 => 76 | 277 => 77 | n => n, fun | 9 => 9 | 3 => 3 | 4 => 4 | 20 => 20 | 0 => 0 | 46 => 73 | 109 => 74 | 5 => 5 | 72 => 68 | 76 => 78 | 51 => 93 | 146 => 94 | 53 => 96 | 148 => 97 | 70 => 66 | 37 => 22 | 75 => 70 | 127 => 92 | 164 => 115 | 80 => 72 | n => n, fun | n => n⟩
theorem Try.lays105 : Go.Proofs.Lays.n105 Try.prog Try.lays105_ren := {
  mixed := by kernel_rfl
  f99 := Try.func40.trans (congrArg some (by kernel_rfl))
  f105 := Try.func18.trans (congrArg some (by kernel_rfl))
  f165 := Try.func41.trans (congrArg some (by kernel_rfl))
  f166 := Try.func42.trans (congrArg some (by kernel_rfl))
  f169 := Try.func38.trans (congrArg some (by kernel_rfl))
  f170 := Try.func43.trans (congrArg some (by kernel_rfl))
  f206 := Try.func63.trans (congrArg some (by kernel_rfl))
  f212 := Try.func39.trans (congrArg some (by kernel_rfl))
  f240 := Try.func60.trans (congrArg some (by kernel_rfl))
  f241 := Try.func64.trans (congrArg some (by kernel_rfl))
  f263 := Try.func61.trans (congrArg some (by kernel_rfl))
  f264 := Try.func62.trans (congrArg some (by kernel_rfl))
  f276 := Try.func76.trans (congrArg some (by kernel_rfl))
  f277 := Try.func77.trans (congrArg some (by kernel_rfl))
  t0 := Try.underlying0
  a0 := Try.isAgg0
  z0 := Try.sizeOf0
  v0 := Try.zeroValue0
  t3 := Try.underlying3
  a3 := Try.isAgg3
  z3 := Try.sizeOf3
  v3 := Try.zeroValue3
  t4 := Try.underlying4
  a4 := Try.isAgg4
  z4 := Try.sizeOf4
  v4 := Try.zeroValue4
  t5 := Try.underlying5
  a5 := Try.isAgg5
  z5 := Try.sizeOf5
  v5 := Try.zeroValue5
  t9 := Try.underlying9
  a9 := Try.isAgg9
  z9 := Try.sizeOf9
  v9 := Try.zeroValue9
  t20 := Try.underlying20
  a20 := Try.isAgg20
  z20 := Try.sizeOf20
  v20 := Try.zeroValue20
  t37 := Try.underlying22
  a37 := Try.isAgg22
  z37 := Try.sizeOf22
  v37 := Try.zeroValue22
  t46 := Try.underlying73
  a46 := Try.isAgg73
  z46 := Try.sizeOf73
  v46 := Try.zeroValue73
  t51 := Try.underlying93
  a51 := Try.isAgg93
  z51 := Try.sizeOf93
  v51 := Try.zeroValue93
  t53 := Try.underlying96
  a53 := Try.isAgg96
  z53 := Try.sizeOf96
  v53 := Try.zeroValue96
  t70 := Try.underlying66
  a70 := Try.isAgg66
  z70 := Try.sizeOf66
  v70 := Try.zeroValue66
  t72 := Try.underlying68
  a72 := Try.isAgg68
  z72 := Try.sizeOf68
  v72 := Try.zeroValue68
  t75 := Try.underlying70
  a75 := Try.isAgg70
  z75 := Try.sizeOf70
  v75 := Try.zeroValue70
  t76 := Try.underlying78
  a76 := Try.isAgg78
  z76 := Try.sizeOf78
  v76 := Try.zeroValue78
  t109 := Try.underlying74
  a109 := Try.isAgg74
  z109 := Try.sizeOf74
  v109 := Try.zeroValue74
  t127 := Try.underlying92
  a127 := Try.isAgg92
  z127 := Try.sizeOf92
  v127 := Try.zeroValue92
  t146 := Try.underlying94
  a146 := Try.isAgg94
  z146 := Try.sizeOf94
  v146 := Try.zeroValue94
  t148 := Try.underlying97
  a148 := Try.isAgg97
  z148 := Try.sizeOf97
  v148 := Try.zeroValue97
  t164 := Try.underlying115
  a164 := Try.isAgg115
  z164 := Try.sizeOf115
  v164 := Try.zeroValue115 }
theorem Try.Builder_Extra_105 : Builder.Extra Try.prog Try.lays105_ren := {
  sizeBuilder := by kernel_rfl
  liesBuilder := by kernel_rfl
  t5 := Try.underlying5
  a5 := Try.isAgg5
  z5 := Try.sizeOf5
  v5 := Try.zeroValue5
  infoByte := by kernel_rfl
  cellsByte := by kernel_rfl
  sizeByte := by kernel_rfl
  neB5 := by decide }
open Go.RowKit Go.Lib in
/-- **strings.Repeat: count ≥ 0, the result within one allocation: count copies of s.** (LAID: no walk: one application.) -/
theorem Try.strings_Repeat (s : ByteArray) (c : Nat) (w : World) (hc : c ≤ 9223372036854775807) (hlen : s.size * c ≤ 140737488355328) :
    Calls Try.prog 18 #[.string s, .int .i64 c] w fun e w' => e = .returned (.string ⟨(Lib.repeatL s.data.toList c).toArray⟩) ∧ Below w.heap.size w w' := Any.strings_Repeat Try.lays105 Try.Builder_Extra_105 s c w hc hlen
end Go.Proofs
