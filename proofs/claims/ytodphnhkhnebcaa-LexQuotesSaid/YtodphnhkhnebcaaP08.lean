/- LexKnown told. -/
import Derived.Test.YtodphnhkhnebcaaP07
import Derived.Test.YtodphnhkhnebcaaP04
import Derived.Lib.SmallJoins
import Derived.Deep.Slices
import Derived.OpenShut
import Derived.Test.YtodphnhkhnebcaaP05
import Derived.Test.YtodphnhkhnebcaaProg
import Derived.Shelf.Strings.Builder1
import Derived.Shelf.Strings.Builder2
import Derived.Shelf.Small.Utf8
import Derived.Shelf.Small.Strs
import Derived.Shelf.Strings.BuilderF
import Derived.Shelf.Strings.BuilderK
import Derived.Shelf.Strings.Builder2Cap
import Derived.Shelf.Strings.Search1
import Derived.Shelf.Strings.Search2
import Derived.Shelf.Strings.Cut
import Derived.Shelf.LaysM
import Derived.Shelf.Strings.Shaped
import Derived.Shelf.Strings.Prefix
import Derived.Shelf.Strings.Runes
import Derived.Shelf.Strings.IndexAny
import Derived.Shelf.Strings.AsciiSet
import Derived.Shelf.Strings.IndexAnyAll
import Derived.Shelf.Bits.Mul64
import Derived.Shelf.Strings.Repeat
namespace Go.Ev
open Go
set_option linter.unusedSimpArgs false
set_option linter.unusedSectionVars false
set_option linter.unusedVariables false

variable {T : Tab} {st : St}

def zeros : List UInt8 := Lib.repeatL [48] 39
theorem kn1 : numT (48 :: (zeros ++ [55])) = (0, 0, 26) := by kernel_rfl
theorem kn2 : numT (48 :: 46 :: (zeros ++ [55])) = (0, 0, 26) := by kernel_rfl
theorem kn3 : numT (48 :: 46 :: 120 :: (zeros ++ [55])) = (0, 0, 5) := by kernel_rfl
theorem kn4 : wordT (Lib.repeatL [120] 100) = (3, 0, Lib.repeatL [120] 100, 0) := by kernel_rfl
theorem kn4l : (Lib.repeatL ([120] : List UInt8) 100).length = 100 := by kernel_rfl
theorem kn5 : wordT (Lib.repeatL [120] 101) = (0, 0, [], 26) := by kernel_rfl
theorem kn6 : unquoteT (40 :: (Lib.repeatL [97] 1000 ++ [41])) = (Lib.repeatL [97] 1000, 1002, 0) := by kernel_rfl
theorem kn6l : (Lib.repeatL ([97] : List UInt8) 1000).length = 1000 := by kernel_rfl
theorem kn7 : unquoteT (40 :: (Lib.repeatL [97] 1001 ++ [41])) = ([], 0, 26) := by kernel_rfl
theorem kn7l : (Lib.repeatL ([97] : List UInt8) 1001).length = 1001 := by kernel_rfl
theorem kn8 : unquoteT [] = ([], 0, 5) := by kernel_rfl
theorem kn9 : unquoteT [40, 97, 92] = ([], 0, 5) := by kernel_rfl
theorem kn10 : numT (zeros ++ [55]) = (1, 7, 0) := by kernel_rfl
theorem kn11 : numT [45, 50, 49, 52, 55, 52, 56, 51, 54, 52, 56] = (1, -2147483648, 0) := by kernel_rfl
theorem kn12 : numT [43, 53] = (1, 5, 0) := by kernel_rfl
theorem kn13 : numT [45, 46, 53, 101, 49] = (2, -327680, 0) := by kernel_rfl
theorem kn14 : numT [51, 54, 35, 122, 105, 107, 48, 122, 106] = (1, 2147483647, 0) := by kernel_rfl
theorem kn20 : unquoteT [40, 97, 13, 98, 13, 10, 99, 10, 100, 41] = ([97, 10, 98, 10, 99, 10, 100], 10, 0) := by kernel_rfl
theorem kn21 : unquoteT [40, 97, 92, 13, 10, 98, 92, 13, 99, 92, 10, 100, 41] = ([97, 98, 99, 100], 13, 0) := by kernel_rfl
theorem kn22 : unquoteT [40, 92, 52, 48, 48, 92, 55, 92, 55, 56, 41] = ([0, 7, 7, 56], 11, 0) := by kernel_rfl
theorem kn23 : unquoteT [40, 92, 114, 92, 116, 92, 98, 92, 102, 92, 41, 92, 40, 92, 92, 92, 113, 41] = ([13, 9, 8, 12, 41, 40, 92, 113], 18, 0) := by kernel_rfl
theorem kn24 : unquoteT [40, 41] = ([], 2, 0) := by kernel_rfl
theorem kt0 : rightT 0 0 [] = false := by kernel_rfl
theorem kt1 : rightT 9 0 [] = false := by kernel_rfl
theorem kt2 : rightT 3 0 [] = false := by kernel_rfl
theorem kt3 : rightT 3 0 [97, 32, 98] = false := by kernel_rfl
theorem kt4 : rightT 1 2147483648 [] = false := by kernel_rfl
theorem kt5 : rightT 2 2147483649 [] = false := by kernel_rfl
theorem kt6 : rightT 7 0 [123] = false := by kernel_rfl
theorem kt7 : rightT 4 0 [91] = false := by kernel_rfl
theorem kt8 : rightT 6 1 [] = false := by kernel_rfl
theorem kt9 : rightT 3 0 [49, 101, 57] = false := by kernel_rfl

theorem zl : zeros.length = 39 := by kernel_rfl

theorem rep_call (H : B.H_strings_Repeat T) {s : List UInt8} {n : Int} (h0 : 0 ≤ n) (h1 : n ≤ 9223372036854775807) (h2 : s.length * n.toNat ≤ 140737488355328) : call T (.fn 13 [] []) [.str s, .int .i64 n] st = some (.str (Lib.repeatL s n.toNat), st) := by
  rw [call_entry H.en]
  simp only [B.E_strings_Repeat, repeatE, List.nil_append, List.append_nil]
  rw [if_pos ⟨h0, h1, h2⟩]

theorem known_round (H : B.H_chaselaw03_LexKnown T) (hwf : st.Wf) {e : Env} {s t : List UInt8} (hs : s.length < 1000000000000) (h : unquoteT s = (t, s.length, 0)) :
    Round T 159 160 161 [B.p 162 (.extr 0 161), B.p 163 (.extr 1 161), B.p 25 (.mov 162), B.p 26 (.mov 163)] [158, 24] B.chaselaw03_LexKnown_l0 e st (.str s) (.str t) := by
  unfold Round
  simp [go_sem, B.chaselaw03_LexKnown_l0]
  refine (unq_call H.lex_Unquote hwf h hs).use fun s1 x1 => ?_
  simp [go_sem, seq8_eq]
  refine ⟨?_, x1.kept hwf⟩
  intro r hr
  simp at hr
  rcases hr with rfl | rfl <;> simp [go_sem]

def badToks : List (Int × Int × List UInt8) := [(0, 0, []), (9, 0, []), (3, 0, []), (3, 0, [97, 32, 98]), (1, 2147483648, []), (2, 2147483649, []), (7, 0, [123]), (4, 0, [91]), (6, 1, []), (3, 0, [49, 101, 57])]
theorem bad_all : ∀ t ∈ badToks, rightT t.1 t.2.1 t.2.2 = false ∧ t.2.2.length < 100 := by
  intro t ht
  have h : badToks.all (fun t => !rightT t.1 t.2.1 t.2.2 && decide (t.2.2.length < 100)) = true := by kernel_rfl
  have := List.all_eq_true.1 h t ht
  simpa using this
def toksC (l : List (Int × Int × List UInt8)) : List AV := l.flatMap fun t => tokC t.1 t.2.1 t.2.2
theorem toksC_at : ∀ {l : List (Int × Int × List UInt8)} {i : Nat} {t : Int × Int × List UInt8}, l[i]? = some t → ((toksC l).drop (3 * i)).take 3 = tokC t.1 t.2.1 t.2.2 ∧ 3 * i + 3 ≤ (toksC l).length
  | [], i, t, h => by cases i <;> cases h
  | a :: l, 0, t, h => by
    simp at h; subst h
    simp [toksC, tokC]
  | a :: l, i + 1, t, h => by
    simp only [List.getElem?_cons_succ] at h
    obtain ⟨h1, h2⟩ := toksC_at h
    have e : toksC (a :: l) = tokC a.1 a.2.1 a.2.2 ++ toksC l := by simp [toksC]
    have e3 : (tokC a.1 a.2.1 a.2.2).length = 3 := rfl
    rw [e]
    refine ⟨?_, by rw [List.length_append, e3]; omega⟩
    rw [show 3 * (i + 1) = (tokC a.1 a.2.1 a.2.2).length + 3 * i by rw [e3]; omega, List.drop_append, List.drop_of_length_le (by omega), List.nil_append]
    rw [show (tokC a.1 a.2.1 a.2.2).length + 3 * i - (tokC a.1 a.2.1 a.2.2).length = 3 * i by omega]
    exact h1

theorem known_loop (H : B.H_chaselaw03_LexKnown T) {st0 : St} {ty n : Nat} {b : Bool} : ∀ (m i : Nat) (e : Env) (st1 : St), i + m = 10 → Ext st0 st1 → hget st1.h n = some (.cells ty false (toksC badToks)) → eget e 24 = .bool b → eget e 193 = .slice n 0 10 (.known 10) → eget e 194 = .int .i64 10 → eget e 195 = .int .i64 i →
    Res (run T (.loop B.chaselaw03_LexKnown_l1) e st1) fun x e' s' => x = .exit 2 ∧ Ext st0 s' ∧ eget e' 24 = .bool b := by
  intro m
  induction m with
  | zero =>
    intro i e st1 hi hx hg g24 g193 g194 g195
    have : i = 10 := by omega
    subst this
    rw [run_loop]
    simp [B.chaselaw03_LexKnown_l1, go_sem, g24, g193, g194, g195, hx]
  | succ m ih =>
    intro i e st1 hi hx hg g24 g193 g194 g195
    have hi10 : (i : Int) < 10 := by omega
    have hi10' : i < 10 := by omega
    have hlen : badToks.length = 10 := rfl
    obtain ⟨t, ht⟩ : ∃ t, badToks[i]? = some t := ⟨badToks[i]'(by omega), List.getElem?_eq_getElem _⟩
    obtain ⟨h1, h2⟩ := toksC_at ht
    obtain ⟨b1, b2⟩ := bad_all t (List.mem_of_getElem? ht)
    have hrd : rdCells st1.h n (i * 3) 3 = some [.int .i64 t.1, .int .i64 t.2.1, .str t.2.2] := by
      rw [rd_part hg (by rw [Nat.mul_comm]; exact h2), Nat.mul_comm, h1]; rfl
    have x1 := hx.trans (Ext.new hx.wf (.cells 134 true [.int .i64 t.1, .int .i64 t.2.1, .str t.2.2]))
    have g1 := (Ext.new hx.wf (.cells 134 true [.int .i64 t.1, .int .i64 t.2.1, .str t.2.2])).get hx.wf hg
    rw [run_loop]
    simp [B.chaselaw03_LexKnown_l1, go_sem, g24, g193, g194, g195, hi10, hi10', RO.run, NO.run, WO.run, hrd, wr_tok, rd_tok]
    refine (chk_call H.lex_Check x1.wf b1 (by omega)).use fun s2 x2' => ?_
    have x2 := x1.trans x2'
    have g2 := x2'.get x1.wf g1
    simp [go_sem]
    refine ih (i + 1) _ s2 (by omega) x2 g2 ?_ ?_ ?_ ?_
    · simp [go_sem]
    · simp [go_sem]
    · simp [go_sem]
    · simp [go_sem]; exact wrap64' (by omega) (by omega)

theorem known_tells (H : B.H_chaselaw03_LexKnown T) (hwf : st.Wf) : Tells T st (.fn 61 [] []) [] (.bool true) := by
  refine tells_of H.e H.f rfl ?_
  simp [B.chaselaw03_LexKnown, go_sem]
  refine (works_tells H.chaselaw03_works hwf).use fun s1 x1 => ?_
  have rp := fun (st : St) (s : List UInt8) (n : Int) h0 h1 h2 => rep_call (st := st) H.strings_Repeat (s := s) (n := n) h0 h1 h2
  simp [go_sem]
  rw [rp _ _ _ (by simp) (by simp) (by simp)]
  have k1 := kn1
  have k2 := kn2
  have k3 := kn3
  have k10 := kn10
  simp [go_sem]
  rw [show Lib.repeatL ([48] : List UInt8) 39 = zeros from rfl]
  have hL : (zeros ++ [55]).length = 40 := by rw [List.length_append, zl]; rfl
  rw [zl]
  generalize zeros ++ [55] = L at k1 k2 k3 k10 hL ⊢
  simp [go_sem, hL]
  refine (num_call H.lex_Number x1.wf k1 (by simp [hL])).use fun s2 x2' => ?_
  have x2 := x1.trans x2'
  simp [go_sem, hL, tokA, tokC, NO.run, WO.run, wr_tok]
  have y2 := x2.trans (Ext.new x2.wf (.cells 134 true [.int .i64 0, .int .i64 0, .str []]))
  refine (num_call H.lex_Number y2.wf k2 (by simp [hL])).use fun s3 x3' => ?_
  have x3 := y2.trans x3'
  simp [go_sem, hL, tokA, tokC, NO.run, WO.run, wr_tok]
  have y3 := x3.trans (Ext.new x3.wf (.cells 134 true [.int .i64 0, .int .i64 0, .str []]))
  refine (num_call H.lex_Number y3.wf k3 (by simp [hL])).use fun s4 x4' => ?_
  have x4 := y3.trans x4'
  simp [go_sem, hL, tokA, tokC, NO.run, WO.run, wr_tok]
  have y4 := x4.trans (Ext.new x4.wf (.cells 134 true [.int .i64 0, .int .i64 0, .str []]))
  rw [rp _ _ _ (by simp) (by simp) (by simp)]
  simp [go_sem]
  refine (word_call H.lex_Word y4.wf kn4 (by rw [kn4l]; simp)).use fun s5 x5' => ?_
  have x5 := y4.trans x5'
  have k4l := kn4l
  generalize Lib.repeatL ([120] : List UInt8) 100 = A at k4l ⊢
  simp [go_sem, tokA, tokC, NO.run, WO.run, wr_tok]
  have z5 := Ext.new x5.wf (.cells 134 true [.int .i64 3, .int .i64 0, .str A])
  have y5 := x5.trans z5
  have g5 : hget ((s5.nx, AObj.cells 134 true [.int .i64 3, .int .i64 0, .str A]) :: s5.h) s5.nx = some (.cells 134 true [.int .i64 3, .int .i64 0, .str A]) := by simp [hget_cons]
  generalize hS : (⟨(s5.nx, AObj.cells 134 true [.int .i64 3, .int .i64 0, .str A]) :: s5.h, s5.nx + 1⟩ : St) = s6 at y5 ⊢
  rw [show (s5.nx, AObj.cells 134 true [.int .i64 3, .int .i64 0, .str A]) :: s5.h = s6.h by rw [← hS]] at g5
  clear hS z5
  generalize s5.nx = n5 at g5 ⊢
  rw [rp _ _ _ (by simp) (by simp) (by simp)]
  simp [go_sem]
  refine (word_call H.lex_Word y5.wf kn5 (by rw [show (Lib.repeatL ([120] : List UInt8) 101).length = 101 by kernel_rfl]; simp)).use fun s7 x7' => ?_
  have x7 := y5.trans x7'
  have g7 := x7'.get y5.wf g5
  simp [go_sem, tokA, tokC, NO.run, WO.run, wr_tok]
  have z7 := Ext.new x7.wf (.cells 134 true [.int .i64 0, .int .i64 0, .str []])
  have y7 := x7.trans z7
  have g8 := z7.get x7.wf g7
  generalize hS : (⟨(s7.nx, AObj.cells 134 true [.int .i64 0, .int .i64 0, .str []]) :: s7.h, s7.nx + 1⟩ : St) = s8 at y7 g8 ⊢
  clear hS z7
  rw [rp _ _ _ (by simp) (by simp) (by simp)]
  have k6 := kn6
  have k6l := kn6l
  have k7 := kn7
  have k7l := kn7l
  simp [go_sem]
  generalize Lib.repeatL ([97] : List UInt8) 1000 = AA at k6 k6l ⊢
  simp [go_sem, k6l]
  refine (unq_call H.lex_Unquote y7.wf k6 (by simp [k6l])).use fun s9 x9' => ?_
  have x9 := y7.trans x9'
  have g9 := x9'.get y7.wf g8
  simp [go_sem]
  rw [rp _ _ _ (by simp) (by simp) (by simp)]
  simp [go_sem]
  generalize Lib.repeatL ([97] : List UInt8) 1001 = AB at k7 k7l ⊢
  simp [go_sem, k7l]
  refine (unq_call H.lex_Unquote x9.wf k7 (by simp [k7l])).use fun s10 x10' => ?_
  have x10 := x9.trans x10'
  have g10 := x10'.get x9.wf g9
  simp [go_sem]
  refine (unq_call H.lex_Unquote x10.wf kn8 (by simp)).use fun s11 x11' => ?_
  have x11 := x10.trans x11'
  have g11 := x11'.get x10.wf g10
  simp [go_sem]
  refine (unq_call H.lex_Unquote x11.wf kn9 (by simp)).use fun s12 x12' => ?_
  have x12 := x11.trans x12'
  have g12 := x12'.get x11.wf g11
  simp [go_sem]
  refine (number73_tells H.chaselaw03_number x12.wf (by simp [hL])).use fun s13 x13' => ?_
  have x13 := x12.trans x13'
  have g13 := x13'.get x12.wf g12
  simp [go_sem, k10, isT]
  refine (number73_tells H.chaselaw03_number x13.wf (by simp)).use fun s14 x14' => ?_
  have x14 := x13.trans x14'
  have g14 := x14'.get x13.wf g13
  simp [go_sem, kn11, isT]
  refine (number73_tells H.chaselaw03_number x14.wf (by simp)).use fun s15 x15' => ?_
  have x15 := x14.trans x15'
  have g15 := x15'.get x14.wf g14
  simp [go_sem, kn12, isT]
  refine (number73_tells H.chaselaw03_number x15.wf (by simp)).use fun s16 x16' => ?_
  have x16 := x15.trans x16'
  have g16 := x16'.get x15.wf g15
  simp [go_sem, kn13, isT]
  refine (number73_tells H.chaselaw03_number x16.wf (by simp)).use fun s17 x17' => ?_
  have x17 := x16.trans x17'
  have g17 := (tok2 (x17'.get x16.wf g16)).2
  simp [go_sem, kn14, isT, RO.run, g17, k4l, k6l]
  refine res_rangeMap ?_
  simp [go_sem, NO.run, WO.run, hget_cons, hset_cons, mins, cellEqK, seq8]
  generalize hm : AObj.map _ = M
  have y18 : Ext st ⟨hdel ((s17.nx, M) :: s17.h) s17.nx, s17.nx + 1 + 1⟩ := by
    have a := x17.trans (Ext.new x17.wf M)
    have b := a.trans (Ext.aside a.wf 1)
    exact b.frm (Frm.hdel b.wf s17.nx) (by simpa using x17.nx)
  clear hm
  generalize hS : (⟨hdel ((s17.nx, M) :: s17.h) s17.nx, s17.nx + 1 + 1⟩ : St) = s18 at y18 ⊢
  rw [show hdel ((s17.nx, M) :: s17.h) s17.nx = s18.h by rw [← hS], show s17.nx + 1 + 1 = s18.nx by rw [← hS]]
  clear hS
  refine ⟨?_, ?_⟩
  · rintro a b (⟨rfl, rfl⟩ | ⟨rfl, rfl⟩ | ⟨rfl, rfl⟩ | ⟨rfl, rfl⟩ | ⟨rfl, rfl⟩)
    · exact known_round H y18.wf (by simp) kn20
    · exact known_round H y18.wf (by simp) kn21
    · exact known_round H y18.wf (by simp) kn22
    · exact known_round H y18.wf (by simp) kn23
    · exact known_round H y18.wf (by simp) kn24
  have x19 := y18.trans (Ext.new y18.wf (.cells 134 false (toksC badToks)))
  have hcs : toksC badToks = [.int .i64 0, .int .i64 0, .str [], .int .i64 9, .int .i64 0, .str [], .int .i64 3, .int .i64 0, .str [], .int .i64 3, .int .i64 0, .str [97, 32, 98], .int .i64 1, .int .i64 2147483648, .str [], .int .i64 2, .int .i64 2147483649, .str [], .int .i64 7, .int .i64 0, .str [123], .int .i64 4, .int .i64 0, .str [91], .int .i64 6, .int .i64 1, .str [], .int .i64 3, .int .i64 0, .str [49, 101, 57]] := rfl
  rw [← hcs]
  refine (known_loop H (b := true) (n := s18.nx) (ty := 134) 10 0 _ _ (by omega) x19 (by simp [hget_cons]) (by simp [go_sem]) (by simp [go_sem]) (by simp [go_sem]) (by simp [go_sem])).mono ?_
  rintro x e s19 ⟨rfl, x20, g24⟩
  simp [go_sem, g24]
  refine (works_tells H.chaselaw03_works x20.wf).use fun s20 x21 => ?_
  simp [go_sem]
  exact x20.trans x21
end Go.Ev

/- LexNests told. -/
namespace Go.Ev
open Go
set_option linter.unusedSimpArgs false
set_option linter.unusedSectionVars false
set_option linter.unusedVariables false

variable {T : Tab} {st : St}

/-- Octets that are only read: a slice of a block, from its beginning. -/
def InL (h : Heap) (v : AV) (l : List UInt8) : Prop := (v = .nilslice ∧ l = []) ∨ ∃ n full, v = .slice n 0 l.length .unk ∧ hget h n = some (.ro (u8s full)) ∧ l = full.take l.length
theorem InL.len {h : Heap} {v : AV} {l : List UInt8} {ev : AO → AV} {x : AO} (a : InL h v l) (hx : ev x = v) : PO.run ev (.lenOf false x) = some (.int .i64 l.length) := by
  rcases a with ⟨rfl, rfl⟩ | ⟨n, full, rfl, _, _⟩ <;> simp [PO.run, hx]
theorem InL.ext {st' : St} {v : AV} {l : List UInt8} (a : InL st.h v l) (x : Ext st st') (hw : st.Wf) : InL st'.h v l := by
  rcases a with h | ⟨n, full, h1, h2, h3⟩
  · exact .inl h
  · exact .inr ⟨n, full, h1, x.get hw h2, h3⟩
theorem InL.take {h : Heap} {v : AV} {l : List UInt8} {ev : AO → AV} {x y : AO} {k : IntKind} (a : InL h v l) (hx : ev x = v) {j : Int} (hy : ev y = .int k j) (h0 : 0 ≤ j) (h1 : j ≤ l.length) : ∃ v', PO.run ev (.subL 1 x none (some y) none) = some v' ∧ InL h v' (l.take j.toNat) := by
  rcases a with ⟨rfl, rfl⟩ | ⟨n, full, rfl, h2, h3⟩
  · refine ⟨.nilslice, ?_, .inl ⟨rfl, by simp⟩⟩
    have : j = 0 := by simp at h1; omega
    subst this
    simp only [PO.run, hx]
    simp [hy, asubL, abounds, bnd, abound, topOf, subCap]
  · have hl : (l.take j.toNat).length = j.toNat := by rw [List.length_take]; omega
    refine ⟨.slice n 0 j.toNat .unk, ?_, .inr ⟨n, full, by rw [hl], h2, ?_⟩⟩
    · simp only [PO.run, hx]
      simp only [hy, asubL, Option.map_some, Option.map_none]
      rw [abounds_hi h0 (show j ≤ (topOf l.length .unk : Nat) from h1)]
      simp [subCap]
    · have hle : l.length ≤ full.length := by
        have := congrArg List.length h3
        rw [List.length_take] at this; omega
      rw [hl]
      conv => lhs; rw [h3]
      rw [List.take_take, Nat.min_eq_left (by omega)]
theorem InL.at {h : Heap} {v : AV} {l : List UInt8} {i : Nat} {c : UInt8} (a : InL h v l) (hc : l[i]? = some c) : ∃ n, v = .slice n 0 l.length .unk ∧ rdCell h n i = some (.int .u8 (c.toNat : Int)) := by
  rcases a with ⟨rfl, rfl⟩ | ⟨n, full, rfl, h2, h3⟩
  · simp at hc
  · refine ⟨n, rfl, ?_⟩
    have : full[i]? = some c := by
      rw [h3, List.getElem?_take] at hc
      split at hc
      · exact hc
      · cases hc
    simp [rdCell, h2, u8s, this]

/-- What LexNests writes, and how many parentheses are left open. -/
def gen : List UInt8 → Nat → List UInt8 × Nat
  | [], o => ([], o)
  | c :: l, o =>
    if c.toNat % 8 = 0 then (40 :: (gen l (o + 1)).1, (gen l (o + 1)).2)
    else if c.toNat % 8 = 1 ∧ 0 < o then (41 :: (gen l (o - 1)).1, (gen l (o - 1)).2)
    else if c = 13 ∨ c = 92 ∨ c = 40 ∨ c = 41 then gen l o
    else (c :: (gen l o).1, (gen l o).2)

theorem nests_loop {st0 : St} {l : List UInt8} {v : AV} (hl : l.length ≤ 300) : ∀ (m i o : Nat) (S : List UInt8) (e : Env) (st1 : St), i + m = l.length → S.length ≤ i → o ≤ i → Ext st0 st1 → InL st1.h v l → eget e 3 = .str S → eget e 4 = .int .i64 o → eget e 16 = v → eget e 17 = .int .i64 l.length → eget e 18 = .int .i64 i →
    Res (run T (.loop B.chaselaw03_LexNests_l0) e st1) fun x e' s' => x = .exit 0 ∧ Ext st0 s' ∧ eget e' 3 = .str (S ++ (gen (l.drop i) o).1) ∧ eget e' 4 = .int .i64 ((gen (l.drop i) o).2 : Nat) ∧ (gen (l.drop i) o).2 ≤ 300 ∧ S.length + (gen (l.drop i) o).1.length ≤ 300 := by
  intro m
  induction m with
  | zero =>
    intro i o S e st1 hi hS ho hx hv g3 g4 g16 g17 g18
    have : i = l.length := by omega
    subst this
    rw [run_loop]
    simp [B.chaselaw03_LexNests_l0, go_sem, g3, g4, g16, g17, g18, gen, hx]
    omega
  | succ m ih =>
    intro i o S e st1 hi hS ho hx hv g3 g4 g16 g17 g18
    have hil : (i : Int) < l.length := by omega
    obtain ⟨c, hc, hd⟩ := idx_some (s := l) (i := i) (by omega)
    obtain ⟨n, hvn, hr⟩ := hv.at hc
    have e18 : IntKind.i64.wrap ((i : Int) + 1) = ((i + 1 : Nat) : Int) := wrap64' (by omega) (by omega)
    rw [run_loop]
    have hm : (c.toNat : Int).tmod 8 = ((c.toNat % 8 : Nat) : Int) := by rw [Int.tmod_eq_emod_of_nonneg (by omega)]; omega
    have hS' : S.length + 1 < 4611686018427387904 := by omega
    have step : ∀ (o' : Nat) (add : List UInt8) (e' : Env) (st2 : St), gen (l.drop i) o = (add ++ (gen (l.drop (i + 1)) o').1, (gen (l.drop (i + 1)) o').2) → add.length ≤ 1 → o' ≤ i + 1 → Ext st1 st2 → eget e' 3 = .str (S ++ add) → eget e' 4 = .int .i64 o' → eget e' 16 = v → eget e' 17 = .int .i64 l.length → eget e' 18 = .int .i64 ((i + 1 : Nat) : Int) →
        Res (run T (.loop B.chaselaw03_LexNests_l0) e' st2) fun x e' s' => x = .exit 0 ∧ Ext st0 s' ∧ eget e' 3 = .str (S ++ (gen (l.drop i) o).1) ∧ eget e' 4 = .int .i64 ((gen (l.drop i) o).2 : Nat) ∧ (gen (l.drop i) o).2 ≤ 300 ∧ S.length + (gen (l.drop i) o).1.length ≤ 300 := by
      intro o' add e' st2 hg ha ho' h2 k3 k4 k16 k17 k18
      rw [hg]
      have := ih (i + 1) o' (S ++ add) e' st2 (by omega) (by rw [List.length_append]; omega) ho' (hx.trans h2) (hv.ext h2 hx.wf) k3 k4 k16 k17 k18
      refine this.mono fun x e s ⟨a1, a2, a3, a4, a5, a6⟩ => ⟨a1, a2, by rw [a3, List.append_assoc], a4, a5, ?_⟩
      rw [List.length_append] at a6 ⊢; omega
    have hg := congrArg (fun r => gen r o) hd
    simp only [gen] at hg
    generalize gen (l.drop i) o = G at step hg ⊢
    generalize c.toNat % 8 = c8 at hm hg
    subst hvn
    by_cases c0 : c8 = 0
    · subst c0
      have e4 : IntKind.i64.wrap ((o : Int) + 1) = ((o + 1 : Nat) : Int) := wrap64' (by omega) (by omega)
      simp [B.chaselaw03_LexNests_l0, go_sem, g3, g4, g16, g17, g18, hil, RO.run, hr, hm, hS']
      exact step (o + 1) [40] _ _ (by simpa using hg) (by simp) (by omega) (.refl hx.wf) (by simp [go_sem]) (by simp [go_sem, e4]) (by simp [go_sem]) (by simp [go_sem]) (by simp [go_sem, e18])
    · have c0' : ¬ (c8 : Int) = 0 := by omega
      by_cases c1 : c8 = 1 ∧ 0 < o
      · obtain ⟨rfl, ho0⟩ := c1
        have e4 : IntKind.i64.wrap ((o : Int) - 1) = ((o - 1 : Nat) : Int) := by rw [wrap64' (by omega) (by omega)]; omega
        simp [B.chaselaw03_LexNests_l0, go_sem, g3, g4, g16, g17, g18, hil, RO.run, hr, hm, hS', ho0, show (0 : Int) < o by omega]
        exact step (o - 1) [41] _ _ (by simpa [ho0] using hg) (by simp) (by omega) (.refl hx.wf) (by simp [go_sem]) (by simp [go_sem, e4]) (by simp [go_sem]) (by simp [go_sem]) (by simp [go_sem, e18])
      · have hg' : G = if c = 13 ∨ c = 92 ∨ c = 40 ∨ c = 41 then gen (l.drop (i + 1)) o else (c :: (gen (l.drop (i + 1)) o).1, (gen (l.drop (i + 1)) o).2) := by simpa [c0, c1] using hg
        have hor : ∀ {P : Prop}, (c = 13 ∨ c = 92 ∨ c = 40 ∨ c = 41 → P) → (c ≠ 13 → c ≠ 92 → c ≠ 40 → c ≠ 41 → P) → P := fun f g => by
          by_cases h : c = 13 ∨ c = 92 ∨ c = 40 ∨ c = 41
          · exact f h
          · simp only [not_or] at h; exact g h.1 h.2.1 h.2.2.1 h.2.2.2
        have h30 : ((c8 : Int) = 1 ∧ (0 : Int) < o) ↔ False := by simp; omega
        refine hor (fun hb => ?_) (fun b1 b2 b3 b4 => ?_)
        · have hg2 : G = ([] ++ (gen (l.drop (i + 1)) o).1, (gen (l.drop (i + 1)) o).2) := by rw [hg', if_pos hb]; rfl
          have hcn : (c.toNat : Int) = 13 ∨ (c.toNat : Int) = 92 ∨ (c.toNat : Int) = 40 ∨ (c.toNat : Int) = 41 := by rcases hb with rfl | rfl | rfl | rfl <;> simp
          obtain ⟨nn, hn⟩ : ∃ nn : Int, nn = c.toNat := ⟨_, rfl⟩
          rw [← hn] at hcn hm hr
          by_cases c2 : c8 = 1
          · subst c2
            have ho0 : ¬ (0 : Int) < o := by omega
            have ho0' : ¬ 0 < o := by omega
            rcases hcn with rfl | rfl | rfl | rfl
            all_goals
              simp [B.chaselaw03_LexNests_l0, go_sem, g3, g4, g16, g17, g18, hil, RO.run, hr, hm, hS', ho0, ho0']
              exact step o [] _ _ hg2 (by simp) (by omega) (.refl hx.wf) (by simp [go_sem]) (by simp [go_sem]) (by simp [go_sem]) (by simp [go_sem]) (by simp [go_sem, e18])
          · have c2' : ¬ (c8 : Int) = 1 := by omega
            rcases hcn with rfl | rfl | rfl | rfl
            all_goals
              simp [B.chaselaw03_LexNests_l0, go_sem, g3, g4, g16, g17, g18, hil, RO.run, hr, hm, hS', c0, c0', c2, c2']
              exact step o [] _ _ hg2 (by simp) (by omega) (.refl hx.wf) (by simp [go_sem]) (by simp [go_sem]) (by simp [go_sem]) (by simp [go_sem]) (by simp [go_sem, e18])
        · have hg2 : G = ([c] ++ (gen (l.drop (i + 1)) o).1, (gen (l.drop (i + 1)) o).2) := by rw [hg', if_neg (by simp [b1, b2, b3, b4])]; rfl
          have n1 : ¬ (c.toNat : Int) = 13 := u8_ne b1 rfl
          have n2 : ¬ (c.toNat : Int) = 92 := u8_ne b2 rfl
          have n3 : ¬ (c.toNat : Int) = 40 := u8_ne b3 rfl
          have n4 : ¬ (c.toNat : Int) = 41 := u8_ne b4 rfl
          have m1 : ¬ c.toNat = 13 := by omega
          have m2 : ¬ c.toNat = 92 := by omega
          have m3 : ¬ c.toNat = 40 := by omega
          have m4 : ¬ c.toNat = 41 := by omega
          have xn := Ext.new hx.wf (.cells 5 false [.int .u8 (c.toNat : Int)])
          have hrd : rdCells ((st1.nx, AObj.cells 5 false [.int .u8 (c.toNat : Int)]) :: st1.h) st1.nx 0 1 = some [.int .u8 (c.toNat : Int)] := rd_all (ty := 5) (l := false) (by simp [hget_cons]) rfl
          have htb : toBytes [.int .u8 (c.toNat : Int)] = some [c] := toBytes_u8s [c]
          by_cases c2 : c8 = 1
          · subst c2
            have ho0 : ¬ (0 : Int) < o := by omega
            have ho0' : ¬ 0 < o := by omega
            simp [B.chaselaw03_LexNests_l0, go_sem, g3, g4, g16, g17, g18, hil, RO.run, NO.run, hr, hm, hS', ho0, ho0', n1, n2, n3, n4, m1, m2, m3, m4, hrd, htb, reps]
            exact step o [c] _ _ hg2 (by simp) (by omega) xn (by simp [go_sem]) (by simp [go_sem]) (by simp [go_sem]) (by simp [go_sem]) (by simp [go_sem, e18])
          · have c2' : ¬ (c8 : Int) = 1 := by omega
            simp [B.chaselaw03_LexNests_l0, go_sem, g3, g4, g16, g17, g18, hil, RO.run, NO.run, hr, hm, hS', c0, c0', c2, c2', n1, n2, n3, n4, m1, m2, m3, m4, hrd, htb, reps]
            exact step o [c] _ _ hg2 (by simp) (by omega) xn (by simp [go_sem]) (by simp [go_sem]) (by simp [go_sem]) (by simp [go_sem]) (by simp [go_sem, e18])

/-- What is written is read back. -/
theorem unq_gen : ∀ (l : List UInt8) (o f : Nat) (rest out : List UInt8), unq (f + (gen l o).1.length) (o + 1) ((gen l o).1 ++ rest) out = unq f ((gen l o).2 + 1) rest (out ++ (gen l o).1)
  | [], o, f, rest, out => by simp [gen]
  | c :: l, o, f, rest, out => by
    simp only [gen]
    split
    · have := unq_gen l (o + 1) f rest (out ++ [40])
      simp only [List.length_cons, List.cons_append]
      rw [← Nat.add_assoc, unq, if_neg (by decide), if_pos rfl, this]
      simp
    · split
      · rename_i h
        obtain ⟨o', rfl⟩ : ∃ o', o = o' + 1 := ⟨o - 1, by omega⟩
        have := unq_gen l o' f rest (out ++ [41])
        simp only [List.length_cons, List.cons_append, Nat.add_sub_cancel]
        rw [← Nat.add_assoc, unq, if_neg (by decide), if_neg (by decide), if_pos rfl, if_neg (by omega), show o' + 1 + 1 - 1 = o' + 1 by omega, this]
        simp
      · split
        · exact unq_gen l o f rest out
        · rename_i h
          simp only [not_or] at h
          have := unq_gen l o f rest (out ++ [c])
          simp only [List.length_cons, List.cons_append]
          rw [← Nat.add_assoc, unq, if_neg h.2.1, if_neg h.2.2.1, if_neg h.2.2.2]
          by_cases h10 : c = 10
          · subst h10
            rw [if_pos (.inl rfl)]
            simp only [lineN]
            rw [if_neg (by simp), List.drop_zero, this]
            simp
          · rw [if_neg (by simp [h10, h.1]), this]
            simp

theorem unq_close : ∀ (o f : Nat) (rest out : List UInt8), unq (f + o) (o + 1) (List.replicate o 41 ++ rest) out = unq f 1 rest (out ++ List.replicate o 41)
  | 0, f, rest, out => by simp
  | o + 1, f, rest, out => by
    have := unq_close o f rest (out ++ [41])
    rw [List.replicate_succ, List.cons_append, ← Nat.add_assoc, unq, if_neg (by decide), if_neg (by decide), if_pos rfl, if_neg (by omega), show o + 1 + 1 - 1 = o + 1 by omega, this]
    simp

theorem repeatL_c (c : UInt8) : ∀ n : Nat, Lib.repeatL [c] n = List.replicate n c
  | 0 => rfl
  | n + 1 => by rw [Lib.repeatL, repeatL_c c n, List.replicate_succ]; rfl

theorem nest_back (l : List UInt8) (h : ((gen l 0).1 ++ List.replicate (gen l 0).2 41).length ≤ 1000) :
    unquoteT (40 :: ((gen l 0).1 ++ List.replicate (gen l 0).2 41 ++ [41])) = ((gen l 0).1 ++ List.replicate (gen l 0).2 41, ((gen l 0).1 ++ List.replicate (gen l 0).2 41).length + 2, 0) := by
  have e : unq (40 :: ((gen l 0).1 ++ List.replicate (gen l 0).2 41 ++ [41])).length 1 ((gen l 0).1 ++ List.replicate (gen l 0).2 41 ++ [41]) [] = some ((gen l 0).1 ++ List.replicate (gen l 0).2 41, []) := by
    have h1 := unq_gen l 0 (2 + (gen l 0).2) (List.replicate (gen l 0).2 41 ++ [41]) []
    have h2 := unq_close (gen l 0).2 2 [41] (gen l 0).1
    have h3 : unq 2 1 [41] ((gen l 0).1 ++ List.replicate (gen l 0).2 41) = some ((gen l 0).1 ++ List.replicate (gen l 0).2 41, []) := by simp [unq]
    rw [List.nil_append, h2, h3] at h1
    rw [← h1, List.append_assoc]
    congr 1
    simp
    omega
  rw [unquoteT, if_pos rfl, e]
  simp only
  rw [if_neg (by omega)]
  simp
  omega

theorem nests_tells (H : B.H_chaselaw03_LexNests T) (hwf : st.Wf) {v : AV} {l : List UInt8} (hv : InL st.h v l) (hl : l.length < 9223372036854775808) : Tells T st (.fn 60 [] []) [v] (.bool true) := by
  refine tells_of H.e H.f rfl ?_
  simp [B.chaselaw03_LexNests, go_sem]
  refine (works_tells H.chaselaw03_works hwf).use fun s1 x1 => ?_
  rcases hv with ⟨rfl, rfl⟩ | ⟨n, full, rfl, h2, h3⟩
  · simp [go_sem, asubL, abounds, bnd, abound, topOf, subCap]
    refine (nests_loop (st0 := st) (l := []) (v := .nilslice) (by simp) 0 0 0 [] _ s1 (by simp) (by simp) (by simp) x1 (.inl ⟨rfl, rfl⟩) (by simp [go_sem]) (by simp [go_sem]) (by simp [go_sem]) (by simp [go_sem]) (by simp [go_sem])).mono ?_
    rintro x e s2 ⟨rfl, x2, g3, g4, g5, g6⟩
    rw [List.drop_zero] at g3 g4 g5 g6
    rw [List.nil_append] at g3
    have hnb := nest_back [] (by simp; omega)
    generalize gen [] 0 = G at g3 g4 g5 g6 hnb
    have hcall : call T (.fn 13 [] []) [.str [41], .int .i64 (G.2 : Int)] s2 = some (.str (List.replicate G.2 41), s2) := by
      rw [rep_call H.strings_Repeat (by omega) (by omega) (by simp; omega), Int.toNat_natCast, repeatL_c]
    simp [go_sem, g3, g4, hcall]
    rw [if_pos (by omega)]
    simp [go_sem]
    rw [if_pos (by omega)]
    simp [go_sem]
    rw [if_pos (by omega)]
    simp [go_sem]
    have hl1 : (40 :: (G.1 ++ List.replicate G.2 41 ++ [41])).length < 1000000000000 := by simp; omega
    simp only [List.append_assoc] at hnb hl1
    refine (unq_call H.lex_Unquote x2.wf hnb hl1).use fun s3 x3 => ?_
    simp [go_sem, seq8_eq]
    refine ⟨?_, x2.trans x3⟩
    simp only [List.length_nil] at g6
    rw [wrap64' (by omega) (by omega)]
  · obtain ⟨k, hk⟩ : ∃ k, k = min l.length 300 := ⟨_, rfl⟩
    have hmin : (if (300 : Int) < (l.length : Int) then 300 else (l.length : Int)) = (k : Int) := by rw [hk]; split <;> omega
    have hle : l.length ≤ full.length := by
      have := congrArg List.length h3
      rw [List.length_take] at this; omega
    have hk2 : (l.take k).length = k := by rw [List.length_take]; omega
    have hv2 : InL s1.h (.slice n 0 k .unk) (l.take k) := .inr ⟨n, full, by rw [hk2], x1.get hwf h2, by rw [hk2]; conv => lhs; rw [h3]; rw [List.take_take, Nat.min_eq_left (by omega)]⟩
    have hsub : asubL 1 n 0 l.length .unk none (some (.int .i64 (k : Int))) none = some (.slice n 0 k .unk) := by
      simp only [asubL]
      rw [abounds_hi (by omega) (show (k : Int) ≤ (topOf l.length .unk : Nat) by show (k : Int) ≤ (l.length : Nat); omega)]
      simp [subCap]
    simp [go_sem, hmin, hsub]
    refine (nests_loop (st0 := st) (l := l.take k) (v := .slice n 0 k .unk) (by omega) k 0 0 [] _ s1 (by omega) (by simp) (by simp) x1 hv2 (by simp [go_sem]) (by simp [go_sem]) (by simp [go_sem]) (by simp [go_sem, hk2]) (by simp [go_sem])).mono ?_
    rintro x e s2 ⟨rfl, x2, g3, g4, g5, g6⟩
    rw [List.drop_zero] at g3 g4 g5 g6
    rw [List.nil_append] at g3
    have hnb := nest_back (l.take k) (by simp; omega)
    generalize gen (l.take k) 0 = G at g3 g4 g5 g6 hnb
    have hcall : call T (.fn 13 [] []) [.str [41], .int .i64 (G.2 : Int)] s2 = some (.str (List.replicate G.2 41), s2) := by
      rw [rep_call H.strings_Repeat (by omega) (by omega) (by simp; omega), Int.toNat_natCast, repeatL_c]
    simp [go_sem, g3, g4, hcall]
    rw [if_pos (by omega)]
    simp [go_sem]
    rw [if_pos (by omega)]
    simp [go_sem]
    rw [if_pos (by omega)]
    simp [go_sem]
    have hl1 : (40 :: (G.1 ++ List.replicate G.2 41 ++ [41])).length < 1000000000000 := by simp; omega
    simp only [List.append_assoc] at hnb hl1
    refine (unq_call H.lex_Unquote x2.wf hnb hl1).use fun s3 x3 => ?_
    simp [go_sem, seq8_eq]
    refine ⟨?_, x2.trans x3⟩
    simp only [List.length_nil] at g6
    rw [wrap64' (by omega) (by omega)]
end Go.Ev

/- Octets among the arguments: what they are, and the names of their blocks. -/
namespace Go.Ev
open Go Go.RowKit Go.ChangeShapes Go.WideShapes Go.Deep Go.Joins
set_option linter.unusedVariables false
set_option linter.unusedSimpArgs false

/-- One block that is only read. -/
def nuOne (a : Addr) : Nu := ⟨fun n => if n = 2 then some a else none, fun _ => 0⟩
def stOne (cs : List AV) : St := ⟨[(2, .ro cs)], 3⟩

theorem stOne_wf (cs : List AV) : (stOne cs).Wf := ⟨(fun n o h => by
  simp only [stOne, hget] at h ⊢
  split at h
  · rename_i e; omega
  · cases h), (by simp [stOne])⟩
theorem stNone_wf (n : Nat) : St.Wf ⟨[], n⟩ := ⟨(fun n o h => by cases h), (by simp)⟩

theorem sr_one {X : Cx} {w : World} {a : Addr} {cs : List AV} {us : Array Value} {t : TypeId} {fz : Nat × Nat} (hb : w.heap[a.block]? = some (.cells us t fz))
    (hc : ∀ (i : Nat) (x : AV), cs[i]? = some x → ∃ u, w.cell? ⟨a.block, a.off + i, none⟩ = some u ∧ VR X (nuOne a) x u) : SR chkD X (nuOne a) (stOne cs) w := by
  refine ⟨⟨?_, ?_⟩, ?_⟩
  · intro n o h
    simp only [stOne, hget] at h
    split at h
    · rename_i e
      subst e
      injection h with h
      subst h
      exact ⟨a, by simp [nuOne], ⟨us, t, fz, hb⟩, hc⟩
    · cases h
  · intro n m o p x y h1 h2 h3
    simp only [stOne, hget] at h1
    split at h1
    · injection h1 with h1; subst h1; cases h3
    · cases h1
  · intro n hn
    simp only [stOne] at hn
    simp only [nuOne]
    rw [if_neg (by omega)]
theorem own_one {a : Addr} {cs : List AV} (b : Nat) : ¬ Own (nuOne a) (stOne cs).h b := fun ⟨n, o, x, h1, h2, _⟩ => by
  simp only [stOne, hget] at h1
  split at h1
  · injection h1 with h1; subst h1; cases h2
  · cases h1

theorem wf_u8 {n : Int} (h : (Lit.int .u8 n).wf = true) : 0 ≤ n ∧ n < 256 := by
  simp [Lit.wf, IntKind.min, IntKind.max, IntKind.signed, IntKind.bits] at h
  omega


section
variable {H : Type} {enc : TypeId × Value → H} {P : Program} {w : World} {base : Nat} {spare : Nat → Bool} {held : Bool}

/-- An octet among the arguments. -/
theorem octet_open {t : TypeId} (ht : P.underlying t = some (.int .u8)) (hc : P.cellsOf t = 1) {fuel : Nat} {cs : List Value} {x : DataW H × List MemPlace} (h : DataW.trod enc P w base spare held fuel t cs = some x) :
    ∃ n : Nat, n < 256 ∧ cs = [.int .u8 (n : Int)] := by
  obtain ⟨n, h2, _, h3⟩ := DataW.trod_int ht h
  have h4 := wf_u8 h3
  obtain ⟨k, rfl⟩ := Int.eq_ofNat_of_zero_le h4.1
  exact ⟨k, by omega, h2⟩

/-- A slice of octets among the arguments. -/
theorem octets_open {X : Cx} {r : Reach} {b0 : Nat} {tb tsl : TypeId} {v : Value} {d : DataW H} {p : List MemPlace} (hP : X.P = P) (hb : P.underlying tb = some (.int .u8)) (hbc : P.cellsOf tb = 1) (hsl : P.underlying tsl = some (.slice tb))
    (hv : Value.okWide P w r b0 tsl v) (h : DataW.Trod enc P w base spare held tsl v d p) :
    ∃ (N : Nu) (st : St) (sv : AV) (l : List UInt8), SR chkD X N st w ∧ st.Wf ∧ (∀ b, ¬ Own N st.h b) ∧ InL st.h sv l ∧ l.length < 9223372036854775808 ∧ VR X N sv v := by
  obtain ⟨a0, len0, cap0, rfl⟩ := okWide_slice hsl hv
  obtain ⟨fuel, hf⟩ := h
  rcases open_slice hsl hf with ⟨hcs, _⟩ | ⟨a, len, cap, m, n2, D, Pl, hcs, hba, hl, hm, hmm, _, hel⟩
  · simp [Value.cells] at hcs
    obtain ⟨rfl, rfl, rfl⟩ := hcs
    exact ⟨Nu.none, ⟨[], 3⟩, .nilslice, [], sr_none 3 w, stNone_wf 3, own_none, .inl ⟨rfl, rfl⟩, by decide, rfl⟩
  · simp [Value.cells] at hcs
    obtain ⟨rfl, rfl, rfl⟩ := hcs
    have hcell : Cell.okWide P w r b0 tsl (.slice (some a) len0 cap0) := by
      simpa only [Value.okWide, hsl] using hv
    have hhas : a.spot = none ∧ ∃ us tt fz, w.heap[a.block]? = some (.cells us tt fz) := by
      simp only [Cell.okWide, hsl, Cell.ok, World.has] at hcell
      obtain ⟨_, _, _, h3, row, cells, h4, _⟩ := hcell
      refine ⟨h3, ?_⟩
      unfold World.shape? at h4
      split at h4
      · exact ⟨_, _, _, by assumption⟩
      · cases h4
    obtain ⟨hsp, us, tt, fz, hheap⟩ := hhas
    obtain ⟨blk, off, spot⟩ := a
    simp only at hsp
    subst hsp
    have hmlen : len0 ≤ m := by rw [hmm]; split <;> omega
    have hoct : ∀ j, j < len0 → ∃ x : Nat, x < 256 ∧ w.cell? ⟨blk, off + j, none⟩ = some (.int .u8 (x : Int)) := by
      intro j hj
      obtain ⟨cs', h3, h4⟩ := hel j (by omega)
      rw [hbc] at h3
      obtain ⟨x, h7, h8⟩ := octet_open hb hbc h4
      obtain ⟨_, _, h9⟩ := World.cells?_some h3
      have h10 := h9 0 (by omega)
      rw [h8] at h10
      refine ⟨x, h7, ?_⟩
      simp only [List.getElem?_cons_zero, Nat.mul_one] at h10
      rw [Deep.add_add] at h10
      rw [Nat.add_zero] at h10
      unfold Addr.add at h10
      split at h10
      · rename_i hj0; rw [hj0]; exact h10
      · exact h10
    obtain ⟨f, hff⟩ := Deep.choose_lt (α := Nat) (p := fun j x => x < 256 ∧ w.cell? ⟨blk, off + j, none⟩ = some (.int .u8 (x : Int))) hoct
    let l : List UInt8 := (List.range len0).map fun j => UInt8.ofNat (f j)
    have hll : l.length = len0 := by simp [l]
    have hxs : (u8s l).length = len0 := by simp [u8s, l]
    refine ⟨nuOne ⟨blk, off, none⟩, stOne (u8s l), .slice 2 0 len0 .unk, l, ?_, stOne_wf _, own_one, .inr ⟨2, l, by rw [hll], by simp [stOne, hget], by rw [List.take_of_length_le (Nat.le_refl _)]⟩, ?_, ?_⟩
    · refine sr_one hheap (fun i x hx => ?_)
      have hi : i < len0 := by rw [← hxs]; exact (List.getElem?_eq_some_iff.1 hx).1
      have hf := hff i hi
      have hx' : x = .int .u8 ((f i : Nat) : Int) := by
        simp [u8s, l, hi] at hx
        rw [← hx]
        have : f i % 256 = f i := Nat.mod_eq_of_lt hf.1
        congr 1
        omega
      subst hx'
      exact ⟨_, hf.2, rfl⟩
    · have : maxLen ≤ 9223372036854775807 := by decide
      omega
    · exact ⟨⟨blk, off, none⟩, cap0, rfl, rfl, hl, trivial⟩
end
end Go.Ev

/- The reference's Unquote: its parts. -/
namespace Go.Ev
open Go
set_option linter.unusedSimpArgs false
set_option linter.unusedSectionVars false
set_option linter.unusedVariables false

variable {T : Tab} {st : St}

/-- More octets appended. -/
theorem Grow.app {st0 s1 : St} (hF : st0.nx ≤ s1.nx) (hw : s1.Wf) {v x : AV} {l m : List UInt8} (a : Grow st0 s1 v l) (hx : Rd s1.h x 1 m.length (u8s m)) (hl : l.length + m.length < 35184372088831) :
    CRes (aappend 5 1 1 s1 v x) fun v' s => Grow st0 s v' (l ++ m) ∧ Frm v.nms s1 s := by
  obtain ⟨a1, a2, a3⟩ := a
  have hap := Sl.append (x := x) (j := m.length) (new := u8s m) (b := 1) (Frm.refl hw v.nms) (fun n h => .inl h) a1 hx (by simp [u8s, AV.sc]) (by omega) (by omega) (.inr fun n c h => a3 _ _ _ _ h)
  refine (hap.also (fun _ _ h => aappend_nk h a3)).mono ?_
  rintro v2 s2 ⟨⟨k1, k2, k3, _⟩, hnk2⟩
  refine ⟨⟨by rw [u8s_append, List.length_append]; exact k1, fun n hn => ?_, hnk2⟩, k2⟩
  rcases k3 n hn with h | h
  · exact a2 n h
  · exact .inr (Nat.le_trans hF h)

def atS : List UInt8 → Nat
  | [] => 0
  | c :: _ => c.toNat

theorem at_tells (H : B.H_chaseref03_at T) (hwf : st.Wf) {s : List UInt8} {i : Nat} (hs : s.length < 1000000000000) : Tells T st (.fn 88 [] []) [.str s, .int .i64 (i : Int)] (.int .u8 (atS (s.drop i) : Nat)) := by
  refine tells_of H.e H.f rfl ?_
  by_cases h : i < s.length
  · obtain ⟨c, hc, hd⟩ := idx_some h
    simp [B.chaseref03_at, go_sem, show (i : Int) < s.length by omega, hc, hd, atS, Ext.refl hwf]
  · have hd : s.drop i = [] := List.drop_eq_nil_iff.2 (by omega)
    simp [B.chaseref03_at, go_sem, show ¬ (i : Int) < s.length by omega, h, hd, atS, Ext.refl hwf]

/-- How long the line's end is that lies ahead. -/
def endS (r : List UInt8) : Nat := if atS r = 13 ∧ atS r.tail = 10 then 2 else if atS r = 13 ∨ atS r = 10 then 1 else 0

theorem ended_tells (H : B.H_chaseref03_ended T) (hwf : st.Wf) {s : List UInt8} {i : Nat} (hi : i ≤ 1000000000000) (hs : s.length < 1000000000000) : Tells T st (.fn 90 [] []) [.str s, .int .i64 (i : Int)] (.int .i64 (endS (s.drop i) : Nat)) := by
  refine tells_of H.e H.f rfl ?_
  have e4 : IntKind.i64.wrap ((i : Int) + 1) = ((i + 1 : Nat) : Int) := wrap64' (by omega) (by omega)
  have hat1 := fun (st' : St) (hw : st'.Wf) => at_tells (st := st') H.chaseref03_at hw (s := s) (i := i) hs
  have hat2 := fun (st' : St) (hw : st'.Wf) => at_tells (st := st') H.chaseref03_at hw (s := s) (i := i + 1) hs
  have ht : (s.drop i).tail = s.drop (i + 1) := by simp
  unfold endS
  rw [ht]
  generalize atS (s.drop i) = a at hat1 ⊢
  generalize atS (s.drop (i + 1)) = b at hat2 ⊢
  simp [B.chaseref03_ended, go_sem]
  refine (hat1 _ hwf).use fun s1 x1 => ?_
  by_cases ha : a = 13
  · subst ha
    simp [go_sem, e4]
    refine (hat2 _ x1.wf).use fun s2 x2' => ?_
    have x2 := x1.trans x2'
    by_cases hb : b = 10
    · subst hb; simp [go_sem, x2]
    · have hb' : ¬ (b : Int) = 10 := by omega
      simp [go_sem, hb, hb']
      refine (hat1 _ x2.wf).use fun s3 x3' => ?_
      have x3 := x2.trans x3'
      simp [go_sem, x3]
  · have ha' : ¬ (a : Int) = 13 := by omega
    simp [go_sem, ha, ha']
    refine (hat1 _ x1.wf).use fun s2 x2' => ?_
    have x2 := x1.trans x2'
    simp [go_sem, ha, ha']
    refine (hat1 _ x2.wf).use fun s3 x3' => ?_
    have x3 := x2.trans x3'
    by_cases hb : a = 10
    · subst hb; simp [go_sem, x3]
    · have hb' : ¬ (a : Int) = 10 := by omega
      simp [go_sem, hb, hb', x3]

/-- How many octal digits lie ahead, at most k. -/
def octS : Nat → List UInt8 → Nat
  | 0, _ => 0
  | _ + 1, [] => 0
  | k + 1, c :: r => if 48 ≤ c.toNat ∧ c.toNat ≤ 55 then octS k r + 1 else 0

theorem octS_at (k : Nat) (r : List UInt8) : octS (k + 1) r = if 48 ≤ atS r ∧ atS r ≤ 55 then octS k r.tail + 1 else 0 := by
  cases r with
  | nil => simp [octS, atS]
  | cons c r => rfl

theorem octal108_loop (H : B.H_chaseref03_octal T) {s : List UInt8} {i : Nat} (hs : s.length < 1000000000000) (hi : i ≤ 1000000000000) (st0 : St) : ∀ (m n : Nat) (e : Env) (st1 : St), n + m = 3 → Ext st0 st1 → eget e 0 = .str s → eget e 1 = .int .i64 i → eget e 5 = .int .i64 n →
    Res (run T (.loop B.chaseref03_octal_l0) e st1) fun x e' s' => x = .exit 0 ∧ Ext st0 s' ∧ eget e' 5 = .int .i64 ((n + octS m (s.drop (i + n)) : Nat) : Int) := by
  intro m
  induction m with
  | zero =>
    intro n e st1 hn hx g0 g1 g5
    have : n = 3 := by omega
    subst this
    rw [run_loop]
    simp [B.chaseref03_octal_l0, go_sem, g0, g1, g5, hx, octS]
  | succ m ih =>
    intro n e st1 hn hx g0 g1 g5
    have e1 : IntKind.i64.wrap ((i : Int) + n) = ((i + n : Nat) : Int) := by rw [wrap64' (by omega) (by omega)]; omega
    have e4 : IntKind.i64.wrap ((n : Int) + 1) = ((n + 1 : Nat) : Int) := wrap64' (by omega) (by omega)
    have hat := fun (st' : St) (hw : st'.Wf) => at_tells (st := st') H.chaseref03_at hw (s := s) (i := i + n) hs
    have ht : (s.drop (i + n)).tail = s.drop (i + (n + 1)) := by simp [Nat.add_assoc]
    rw [octS_at, ht]
    generalize atS (s.drop (i + n)) = a at hat ⊢
    have hn3 : (n : Int) < 3 := by omega
    rw [run_loop]
    simp [B.chaseref03_octal_l0, go_sem, g0, g1, g5, hn3, e1]
    refine (hat _ hx.wf).use fun s1 x1' => ?_
    have x1 := hx.trans x1'
    by_cases h1 : 48 ≤ a
    · simp [go_sem, h1, show (48 : Int) ≤ a by omega, e1]
      refine (hat _ x1.wf).use fun s2 x2' => ?_
      have x2 := x1.trans x2'
      by_cases h2 : a ≤ 55
      · simp [go_sem, h1, h2, show (a : Int) ≤ 55 by omega]
        refine (ih (n + 1) _ s2 (by omega) x2 (by simp [go_sem]) (by simp [go_sem]) (by simp [go_sem, e4])).mono ?_
        rintro x e' s' ⟨a1, a2, a3⟩
        exact ⟨a1, a2, by rw [a3]; congr 1; omega⟩
      · simp [go_sem, h1, h2, show ¬ (a : Int) ≤ 55 by omega, x2]
    · simp [go_sem, h1, show ¬ (48 : Int) ≤ a by omega, x1]

theorem octal108_tells (H : B.H_chaseref03_octal T) (hwf : st.Wf) {s : List UInt8} {i : Nat} (hi : i ≤ 1000000000000) (hs : s.length < 1000000000000) : Tells T st (.fn 108 [] []) [.str s, .int .i64 (i : Int)] (.int .i64 (octS 3 (s.drop i) : Nat)) := by
  refine tells_of H.e H.f rfl ?_
  simp [B.chaseref03_octal, go_sem]
  refine (octal108_loop H hs hi st 3 0 _ st (by omega) (.refl hwf) (by simp [go_sem]) (by simp [go_sem]) (by simp [go_sem])).mono ?_
  rintro x e s' ⟨rfl, x2, g⟩
  simp [go_sem, g, x2]

/-- Octal digits' value. -/
def octV (n : Nat) (l : List UInt8) : Nat := l.foldl (fun v c => 8 * v + (c.toNat - 48)) n
theorem octN_eq : ∀ (k n : Nat) (r : List UInt8), octN k n r = (octV n (r.take (octS k r)), octS k r)
  | 0, n, r => by simp [octN, octS, octV]
  | k + 1, n, [] => by simp [octN, octS, octV]
  | k + 1, n, c :: r => by
    simp only [octN, octS]
    split
    · rw [octN_eq k]
      simp [octV]
    · simp [octV]
theorem octS_dig : ∀ (k : Nat) (r : List UInt8), ∀ c ∈ r.take (octS k r), 48 ≤ c.toNat ∧ c.toNat ≤ 55
  | 0, r, c, h => by simp [octS] at h
  | k + 1, [], c, h => by simp [octS] at h
  | k + 1, d :: r, c, h => by
    simp only [octS] at h
    split at h
    · rw [List.take_succ_cons] at h
      rcases List.mem_cons.1 h with rfl | h
      · assumption
      · exact octS_dig k r c h
    · simp at h
theorem octS_le : ∀ (k : Nat) (r : List UInt8), octS k r ≤ k ∧ octS k r ≤ r.length
  | 0, r => by simp [octS]
  | k + 1, [] => by simp [octS]
  | k + 1, d :: r => by
    have := octS_le k r
    simp only [octS, List.length_cons]
    split <;> omega

theorem octV_le : ∀ (l : List UInt8) (n : Nat), (∀ c ∈ l, 48 ≤ c.toNat ∧ c.toNat ≤ 55) → octV n l + 1 ≤ (n + 1) * 8 ^ l.length
  | [], n, _ => by simp [octV]
  | c :: l, n, h => by
    have h1 := h c List.mem_cons_self
    have := octV_le l (8 * n + (c.toNat - 48)) fun d hd => h d (List.mem_cons_of_mem _ hd)
    have e : octV n (c :: l) = octV (8 * n + (c.toNat - 48)) l := rfl
    rw [e, List.length_cons, Nat.pow_succ, Nat.mul_comm (8 ^ l.length) 8, ← Nat.mul_assoc]
    exact Nat.le_trans this (Nat.mul_le_mul_right _ (by omega))

theorem octV_loop {s : List UInt8} {i K : Nat} (hs : s.length < 1000000000000) (hK : K ≤ 3) (hi : i + 1 + K ≤ s.length) (hdig : ∀ c ∈ (s.drop (i + 1)).take K, 48 ≤ c.toNat ∧ c.toNat ≤ 55) (hwf : st.Wf) : ∀ (m k v : Nat) (e : Env), k + m = K → v + 1 ≤ 8 ^ k → eget e 0 = .str s → eget e 1 = .int .i64 i → eget e 6 = .int .i64 K → eget e 7 = .int .i64 v → eget e 8 = .int .i64 k →
    Res (run T (.loop B.chaseref03_escape_l0) e st) fun x e' s' => x = .exit 0 ∧ s' = st ∧ eget e' 6 = .int .i64 K ∧ eget e' 7 = .int .i64 ((octV v (((s.drop (i + 1)).take K).drop k) : Nat) : Int) := by
  intro m
  induction m with
  | zero =>
    intro k v e hk hv g0 g1 g6 g7 g8
    have : k = K := by omega
    subst this
    rw [run_loop]
    have hz : ((s.drop (i + 1)).take k).drop k = [] := List.drop_eq_nil_iff.2 (by rw [List.length_take]; omega)
    simp [B.chaseref03_escape_l0, go_sem, g0, g1, g6, g7, g8]
    rfl
  | succ m ih =>
    intro k v e hk hv g0 g1 g6 g7 g8
    have hkK : (k : Int) < K := by omega
    obtain ⟨c, hc, hd⟩ := idx_some (s := s) (i := i + 1 + k) (by omega)
    have hd2 : ((s.drop (i + 1)).take K).drop k = c :: ((s.drop (i + 1)).take K).drop (k + 1) := by
      have hl : k < ((s.drop (i + 1)).take K).length := by rw [List.length_take, List.length_drop]; omega
      obtain ⟨c', hc', hd'⟩ := idx_some hl
      rw [hd']
      have : c' = c := by
        rw [List.getElem?_take, if_pos (by omega), List.getElem?_drop, hc] at hc'
        exact (Option.some.inj hc').symm
      rw [this]
    have hcd := hdig c (List.mem_of_mem_drop (by rw [hd2]; exact List.mem_cons_self))
    have h8k : (8 : Nat) ^ k ≤ 8 ^ 3 := Nat.pow_le_pow_right (by omega) (by omega)
    have h8 : (8 : Nat) ^ 3 = 512 := rfl
    have e1 : IntKind.i64.wrap ((v : Int) * 8) = v * 8 := wrap64' (by omega) (by omega)
    have e2 : IntKind.i64.wrap ((i : Int) + 1) = (i : Int) + 1 := wrap64' (by omega) (by omega)
    have e3 : IntKind.i64.wrap ((i : Int) + 1 + k) = ((i + 1 + k : Nat) : Int) := by rw [wrap64' (by omega) (by omega)]; omega
    have e4 : IntKind.i64.wrap ((c.toNat : Nat) : Int) = c.toNat := wrap64' (by omega) (by omega)
    have e5 : IntKind.i64.wrap ((v : Int) * 8 + c.toNat) = v * 8 + c.toNat := wrap64' (by omega) (by omega)
    have e6 : IntKind.i64.wrap ((v : Int) * 8 + c.toNat - 48) = ((8 * v + (c.toNat - 48) : Nat) : Int) := by rw [wrap64' (by omega) (by omega)]; omega
    have e7 : IntKind.i64.wrap ((k : Int) + 1) = ((k + 1 : Nat) : Int) := wrap64' (by omega) (by omega)
    obtain ⟨q, hq⟩ : ∃ q, q = i + 1 + k := ⟨_, rfl⟩
    rw [← hq] at e3 hc
    have hql : (q : Int) < s.length := by omega
    rw [run_loop]
    simp [B.chaseref03_escape_l0, go_sem, g0, g1, g6, g7, g8, hkK, e1, e2, e3, e4, e5, e6, hc]
    rw [hd2]
    refine (ih (k + 1) (8 * v + (c.toNat - 48)) _ (by omega) (by rw [Nat.pow_succ]; omega) (by simp [go_sem]) (by simp [go_sem]) (by simp [go_sem]) (by simp [go_sem, e6]) (by simp [go_sem, e7])).mono fun x e s h => h

theorem letter_not {c : UInt8} (h : 48 ≤ c.toNat ∧ c.toNat ≤ 55 ∨ c = 10 ∨ c = 13) : letter c = none := by
  have hb : (List.range 256).all (fun n => !((decide (48 ≤ n) && decide (n ≤ 55)) || decide (n = 10) || decide (n = 13)) || (letter (UInt8.ofNat n)).isNone) = true := by kernel_rfl
  have := all_octets hb c
  simp only [UInt8.ofNat_toNat] at this
  cases hl : letter c with
  | none => rfl
  | some o =>
    rw [hl] at this
    simp at this
    rcases h with h | rfl | rfl
    · omega
    · simp at this
    · simp at this

theorem made_rd {s2 : St} (x : Ext st s2) (c : UInt8) : Ext st ⟨dropLoc st.nx ((s2.nx, .cells 5 false [.int .u8 (c.toNat : Int)]) :: s2.h), s2.nx + 1⟩ ∧ Rd (dropLoc st.nx ((s2.nx, AObj.cells 5 false [.int .u8 (c.toNat : Int)]) :: s2.h)) (.slice s2.nx 0 1 (.known 1)) 1 1 (u8s [c]) := by
  have y := x.trans (Ext.new x.wf (.cells 5 false [.int .u8 (c.toNat : Int)]))
  refine ⟨y.dropLoc, .inr ⟨_, _, _, rfl, rd_all (ty := 5) (l := false) (hget_dropLoc_keep y.wf (by simp [hget_cons]; rfl) rfl) rfl⟩⟩

theorem endS_line {c : UInt8} {r : List UInt8} (h : c = 10 ∨ c = 13) : endS (c :: r) = 1 + lineN c r := by
  unfold endS lineN
  rcases h with rfl | rfl
  · simp [atS]
  · cases r with
    | nil => simp [atS]
    | cons b r =>
      by_cases hb : b = 10
      · subst hb; simp [atS]
      · have : ¬ b.toNat = 10 := fun e => hb (UInt8.toNat_inj.1 e)
        simp [atS, hb, this]
theorem endS_none {c : UInt8} {r : List UInt8} (h : ¬ (c = 10 ∨ c = 13)) : endS (c :: r) = 0 := by
  simp only [not_or] at h
  have h1 : ¬ c.toNat = 10 := fun e => h.1 (UInt8.toNat_inj.1 e)
  have h2 : ¬ c.toNat = 13 := fun e => h.2 (UInt8.toNat_inj.1 e)
  simp [endS, atS, h1, h2]

theorem refEscape_res (H : B.H_chaseref03_escape T) (hwf : st.Wf) {s : List UInt8} {i : Nat} (hs : s.length < 1000000000000) (hi : i + 1 < s.length) {o : List UInt8} {m : Nat} (he : esc (s.drop (i + 1)) = some (o, m)) :
    CRes (call T (.fn 89 [] []) [.str s, .int .i64 (i : Int)] st) fun v s' => ∃ sv, v = .tuple [sv, .int .i64 ((1 + m : Nat) : Int)] ∧ Ext st s' ∧ Rd s'.h sv 1 o.length (u8s o) := by
  refine call_res H.e H.f rfl ?_
  have e1 : IntKind.i64.wrap ((i : Int) + 1) = ((i + 1 : Nat) : Int) := wrap64' (by omega) (by omega)
  have ho := fun (st' : St) (hw : st'.Wf) => octal108_tells (st := st') H.chaseref03_octal hw (s := s) (i := i + 1) (by omega) hs
  have hen := fun (st' : St) (hw : st'.Wf) => ended_tells (st := st') H.chaseref03_ended hw (s := s) (i := i + 1) (by omega) hs
  obtain ⟨c, hc, hd⟩ := idx_some (s := s) (i := i + 1) (by omega)
  have hdig := octS_dig 3 (s.drop (i + 1))
  have hle := octS_le 3 (s.drop (i + 1))
  rw [List.length_drop] at hle
  simp [B.chaseref03_escape, go_sem, e1]
  refine (ho _ hwf).use fun s1 x1 => ?_
  obtain ⟨k2, hk2⟩ : ∃ k2, k2 = i + 1 := ⟨_, rfl⟩
  by_cases hoc : 48 ≤ c.toNat ∧ c.toNat ≤ 55
  · have hK : octS 3 (s.drop (i + 1)) = octS 2 (s.drop (i + 1 + 1)) + 1 := by rw [hd]; simp [octS, hoc]
    have hesc : esc (s.drop (i + 1)) = some ([UInt8.ofNat (octV 0 ((s.drop (i + 1)).take (octS 3 (s.drop (i + 1)))))], octS 3 (s.drop (i + 1))) := by
      rw [hK, hd]
      have h10 : ¬ (c = 10 ∨ c = 13) := by rintro (rfl | rfl) <;> simp at hoc
      simp only [esc, letter_not (.inl hoc), if_neg h10, if_pos hoc, octN_eq, List.take_succ_cons]
      simp [octV, Nat.add_comm]
    rw [hesc] at he
    simp only [Option.some.injEq, Prod.mk.injEq] at he
    obtain ⟨rfl, rfl⟩ := he
    have hvl := octV_le ((s.drop (i + 1)).take (octS 3 (s.drop (i + 1)))) 0 hdig
    have hKl : ((s.drop (i + 1)).take (octS 3 (s.drop (i + 1)))).length ≤ 3 := by rw [List.length_take]; omega
    have h8k := Nat.pow_le_pow_right (show 0 < 8 by omega) hKl
    have h8 : (8 : Nat) ^ 3 = 512 := rfl
    have lp := fun e a b c d f => octV_loop (T := T) (st := s1) (K := octS 3 (s.drop (i + 1))) hs hle.1 (by omega) hdig x1.wf (octS 3 (s.drop (i + 1))) 0 0 e (by omega) (by simp) a b c d f
    simp only [List.drop_zero] at lp
    have hK0 : 0 < octS 3 (s.drop (i + 1)) := by omega
    generalize octV 0 ((s.drop (i + 1)).take (octS 3 (s.drop (i + 1)))) = V at lp hvl ⊢
    have hV : V ≤ 511 := by omega
    generalize octS 3 (s.drop (i + 1)) = K at lp hK0 hle ⊢
    have hK0' : (0 : Int) < K := by omega
    simp [go_sem, hK0, hK0']
    refine (lp _ (by simp [go_sem]) (by simp [go_sem]) (by simp [go_sem]) (by simp [go_sem]) (by simp [go_sem])).mono ?_
    rintro x e' s2 ⟨rfl, rfl, g6, g7⟩
    have w1 : (V : Int).tmod 256 = ((V % 256 : Nat) : Int) := by rw [Int.tmod_eq_emod_of_nonneg (by omega)]; omega
    have w2 : IntKind.u8.wrap ((V % 256 : Nat) : Int) = ((UInt8.ofNat V).toNat : Int) := by
      rw [wrap_u8 (by omega) (by omega)]; simp
    have w3 : IntKind.i64.wrap (1 + (K : Int)) = ((1 + K : Nat) : Int) := by rw [wrap64' (by omega) (by omega)]; omega
    obtain ⟨y1, y2⟩ := made_rd x1 (UInt8.ofNat V)
    generalize UInt8.ofNat V = b at w2 y1 y2 ⊢
    generalize V % 256 = Vr at w1 w2
    simp [go_sem, g6, g7, NO.run, w1, w2, w3, reps]
    exact ⟨y1, y2⟩
  · have hK : octS 3 (s.drop (i + 1)) = 0 := by rw [hd]; simp [octS, hoc]
    rw [hK]
    simp [go_sem, e1]
    refine (hen _ x1.wf).use fun s2 x2' => ?_
    have x2 := x1.trans x2'
    by_cases hln : c = 10 ∨ c = 13
    · have hes : endS (s.drop (i + 1)) = 1 + lineN c (s.drop (i + 1 + 1)) := by rw [hd]; exact endS_line hln
      have hesc : esc (s.drop (i + 1)) = some ([], 1 + lineN c (s.drop (i + 1 + 1))) := by
        rw [hd]; simp only [esc, letter_not (.inr hln), if_pos hln]
      rw [hesc] at he
      simp only [Option.some.injEq, Prod.mk.injEq] at he
      obtain ⟨rfl, rfl⟩ := he
      have hlu := lineN_used c (s.drop (i + 1 + 1))
      rw [List.length_drop] at hlu
      rw [hes]
      generalize lineN c (s.drop (i + 1 + 1)) = L at hlu ⊢
      obtain ⟨L1, hL1⟩ : ∃ L1, L1 = 1 + L := ⟨_, rfl⟩
      have hL0 : (0 : Int) < L1 := by omega
      have hL0' : 0 < L1 := by omega
      rw [← hL1]
      have w3 : IntKind.i64.wrap (1 + (L1 : Int)) = ((1 + L1 : Nat) : Int) := by rw [wrap64' (by omega) (by omega)]; omega
      simp [go_sem, hL0, hL0', w3]
      exact ⟨x2.dropLoc, .inl ⟨rfl, rfl, rfl⟩⟩
    · have hes : endS (s.drop (i + 1)) = 0 := by rw [hd]; exact endS_none hln
      rw [hes]
      have hesc : esc (s.drop (i + 1)) = some (match letter c with | some o => ([o], 1) | none => ([c], 1)) := by
        rw [hd]; simp only [esc, if_neg hln, if_neg hoc]; rfl
      rw [hesc] at he
      obtain ⟨q, hq⟩ : ∃ q, q = i + 1 := ⟨_, rfl⟩
      rw [← hq] at hc e1
      have fin : ∀ (b : UInt8), o = [b] ∧ m = 1 → Ext st ⟨dropLoc st.nx ((s2.nx, .cells 5 false [.int .u8 (b.toNat : Int)]) :: s2.h), s2.nx + 1⟩ ∧ Rd (dropLoc st.nx ((s2.nx, AObj.cells 5 false [.int .u8 (b.toNat : Int)]) :: s2.h)) (.slice s2.nx 0 1 (.known 1)) 1 o.length (u8s o) := by
        rintro b ⟨rfl, rfl⟩
        exact made_rd x2 b
      have hm1 : m = 1 := by
        cases hl : letter c <;> rw [hl] at he <;> simp at he <;> exact he.2.symm
      subst hm1
      have hn : ∀ k : UInt8, c ≠ k → ¬ (c.toNat : Int) = (k.toNat : Int) ∧ ¬ c.toNat = k.toNat := fun k h => ⟨u8_ne h rfl, fun e => h (UInt8.toNat_inj.1 e)⟩
      by_cases h1 : c = 110
      · subst h1
        simp [letter] at he
        have f := fin 10 ⟨he.symm, rfl⟩
        simp [go_sem, e1, hc, NO.run, reps]
        exact f
      by_cases h2 : c = 114
      · subst h2
        simp [letter] at he
        have f := fin 13 ⟨he.symm, rfl⟩
        simp [go_sem, e1, hc, NO.run, reps]
        exact f
      by_cases h3 : c = 116
      · subst h3
        simp [letter] at he
        have f := fin 9 ⟨he.symm, rfl⟩
        simp [go_sem, e1, hc, NO.run, reps]
        exact f
      by_cases h4 : c = 98
      · subst h4
        simp [letter] at he
        have f := fin 8 ⟨he.symm, rfl⟩
        simp [go_sem, e1, hc, NO.run, reps]
        exact f
      by_cases h5 : c = 102
      · subst h5
        simp [letter] at he
        have f := fin 12 ⟨he.symm, rfl⟩
        simp [go_sem, e1, hc, NO.run, reps]
        exact f
      have m1 := hn _ h1
      have m2 := hn _ h2
      have m3 := hn _ h3
      have m4 := hn _ h4
      have m5 := hn _ h5
      simp at m1 m2 m3 m4 m5
      simp [letter, h1, h2, h3, h4, h5] at he
      have f := fin c ⟨he.symm, rfl⟩
      simp [go_sem, e1, hc, NO.run, reps, m1, m2, m3, m4, m5]
      exact f
end Go.Ev

/- The reference's Unquote told. -/
namespace Go.Ev
open Go
set_option linter.unusedSimpArgs false
set_option linter.unusedSectionVars false
set_option linter.unusedVariables false

variable {T : Tab} {st : St}

/-- What Unquote answers to what was read. -/
def finU (n : Nat) : Option (List UInt8 × List UInt8) → List UInt8 × Nat × Int
  | none => ([], 0, 5)
  | some (o, l) => if 1000 < o.length then ([], 0, 26) else (o, n - l.length, 0)

theorem refUnquote_loop (H : B.H_chaseref03_Unquote T) {s : List UInt8} (hs : s.length < 1000000000000) (st0 : St) : ∀ (f d k : Nat) (out : List UInt8) (e : Env) (st1 : St) (v : AV), s.length + 1 ≤ k + f → k ≤ s.length → 1 ≤ d → d ≤ k + 1 → out.length ≤ k → Ext st0 st1 → Grow st0 st1 v out → eget e 0 = .str s → eget e 5 = v → eget e 6 = .int .i64 d → eget e 7 = .int .i64 k →
    Res (run T (.loop B.chaseref03_Unquote_l0) e st1) fun x e' s' => Ext st0 s' ∧ ((x = .exit 0 ∧ unq f d (s.drop k) out = none) ∨ (x = .ret ∧ eget e' 2 = .str (finU s.length (unq f d (s.drop k) out)).1 ∧ eget e' 3 = .int .i64 ((finU s.length (unq f d (s.drop k) out)).2.1 : Int) ∧ eget e' 4 = .int .i64 (finU s.length (unq f d (s.drop k) out)).2.2)) := by
  intro f
  induction f with
  | zero => intro d k out e st1 v h1 h2; omega
  | succ f ih =>
    intro d k out e st1 v hf hk hd1 hdk ho hx hg g0 g5 g6 g7
    rw [run_loop]
    by_cases hkl : k = s.length
    · subst hkl
      have hd : s.drop s.length = [] := by simp
      rw [hd]
      simp [B.chaseref03_Unquote_l0, go_sem, g0, g5, g6, g7, unq, hx]
    have hkl1 : k < s.length := by omega
    have hkl2 : (k : Int) < s.length := by omega
    obtain ⟨c, hc, hd⟩ := idx_some hkl1
    have hen := fun (st' : St) (hw : st'.Wf) => ended_tells (st := st') H.chaseref03_ended hw (s := s) (i := k) (by omega) hs
    have step : ∀ (d' : Nat) (o : List UInt8) (k' : Nat) (e' : Env) (st2 : St) (v' : AV), unq (f + 1) d (s.drop k) out = unq f d' (s.drop k') (out ++ o) → k + 1 ≤ k' → k' ≤ s.length → 1 ≤ d' → d' ≤ k + 2 → k + o.length ≤ k' → Ext st0 st2 → Grow st0 st2 v' (out ++ o) → eget e' 0 = .str s → eget e' 5 = v' → eget e' 6 = .int .i64 d' → eget e' 7 = .int .i64 k' →
        Res (run T (.loop B.chaseref03_Unquote_l0) e' st2) fun x e' s' => Ext st0 s' ∧ ((x = .exit 0 ∧ unq (f + 1) d (s.drop k) out = none) ∨ (x = .ret ∧ eget e' 2 = .str (finU s.length (unq (f + 1) d (s.drop k) out)).1 ∧ eget e' 3 = .int .i64 ((finU s.length (unq (f + 1) d (s.drop k) out)).2.1 : Int) ∧ eget e' 4 = .int .i64 (finU s.length (unq (f + 1) d (s.drop k) out)).2.2)) := by
      intro d' o k' e' st2 v' he h1 h2 h3 h3' h4 h5 h6 k0 k5 k6 k7
      rw [he]
      exact ih d' k' (out ++ o) e' st2 v' (by omega) h2 h3 (by omega) (by rw [List.length_append]; omega) h5 h6 k0 k5 k6 k7
    generalize hU : unq (f + 1) d (s.drop k) out = U at step ⊢
    have ek : IntKind.i64.wrap ((k : Int) + 1) = ((k + 1 : Nat) : Int) := wrap64' (by omega) (by omega)
    by_cases h41 : c = 41
    · subst h41
      by_cases hdd : d = 1
      · subst hdd
        have hun : U = some (out, s.drop (k + 1)) := by rw [← hU, hd]; simp [unq]
        have hlen : s.length - (s.drop (k + 1)).length = k + 1 := by rw [List.length_drop]; omega
        have hu8 := toBytes_u8s out
        obtain ⟨⟨m, hsl⟩, b6, b7⟩ := hg
        rcases hsl with ⟨k1, k2, k3⟩ | ⟨k1, k2, k3⟩ | ⟨ty', k1, k2, k3⟩
        · have : out = [] := List.length_eq_zero_iff.1 k3
          subst this
          subst k1
          rw [hun]
          simp only [finU, hlen]
          obtain ⟨q, hq⟩ : ∃ q, q = k + 1 := ⟨_, rfl⟩
          rw [← hq] at ek ⊢
          simp [B.chaseref03_Unquote_l0, go_sem, g0, g5, g6, g7, hkl2, hc, RO.run, ek, hx]
        · have hrd : rdCells st1.h m 0 out.length = some (u8s out) := by
            simp [rdCells, k2, u8s_len]
            exact List.take_of_length_le (by rw [u8s_len]; exact Nat.le_refl _)
          subst k1
          rw [hun]
          simp only [finU, hlen]
          obtain ⟨q, hq⟩ : ∃ q, q = k + 1 := ⟨_, rfl⟩
          rw [← hq] at ek ⊢
          by_cases hlong : 1000 < out.length
          · simp [B.chaseref03_Unquote_l0, go_sem, g0, g5, g6, g7, hkl2, hc, RO.run, ek, hx, hlong, show (1000 : Int) < out.length by omega]
          · simp [B.chaseref03_Unquote_l0, go_sem, g0, g5, g6, g7, hkl2, hc, RO.run, ek, hx, hlong, show ¬ (1000 : Int) < out.length by omega, hrd, hu8]
        · exact absurd k1 (b7 _ _ _ _)
      · have hdd' : ¬ (d : Int) = 1 := by omega
        have hun : U = unq f (d - 1) (s.drop (k + 1)) (out ++ [41]) := by rw [← hU, hd]; simp [unq, hdd]
        have he0 : endS (s.drop k) = 0 := by rw [hd]; exact endS_none (by decide)
        have e6 : IntKind.i64.wrap ((d : Int) - 1) = ((d - 1 : Nat) : Int) := by rw [wrap64' (by omega) (by omega)]; omega
        simp [B.chaseref03_Unquote_l0, go_sem, g0, g5, g6, g7, hkl2, hc, hdd, hdd']
        refine (hen _ hx.wf).use fun s1 x1' => ?_
        have x1 := hx.trans x1'
        have hg1 := hg.ext x1' hx.wf
        rw [he0]
        simp [go_sem, hc, NO.run, reps]
        refine (hg1.push x1.nx x1.wf (k := 1) (by omega) (c := 41) (by omega)).mono ?_
        rintro v2 s2 ⟨o2, f2⟩
        have x2 := x1.frm f2 hg1.ge
        simp [go_sem]
        exact step (d - 1) [41] (k + 1) _ _ v2 hun (by omega) (by omega) (by omega) (by omega) (by simp) x2 o2 (by simp [go_sem]) (by simp [go_sem]) (by simp [go_sem, e6]) (by simp [go_sem, ek])
    · have n1 : ¬ (c.toNat : Int) = 41 := u8_ne h41 rfl
      have m1 : ¬ c.toNat = 41 := by omega
      by_cases h92 : c = 92
      · subst h92
        by_cases hk1 : k + 1 = s.length
        · have hun : U = none := by rw [← hU, hd, hk1]; simp [unq, esc]
          have hk1' : ((k + 1 : Nat) : Int) = s.length := by omega
          obtain ⟨q, hq⟩ : ∃ q, q = k + 1 := ⟨_, rfl⟩
          rw [← hq] at ek hk1'
          simp [B.chaseref03_Unquote_l0, go_sem, g0, g5, g6, g7, hkl2, hc, ek, hk1', hun, finU, hx]
        · obtain ⟨q, hq⟩ : ∃ q, q = k + 1 := ⟨_, rfl⟩
          have hk1' : ¬ (q : Int) = s.length := by omega
          have hk1'' : ¬ q = s.length := by omega
          obtain ⟨p, hes⟩ : ∃ p, esc (s.drop (k + 1)) = some p := by
            obtain ⟨c2, _, hd2⟩ := idx_some (s := s) (i := k + 1) (by omega)
            rw [hd2]; exact ⟨_, rfl⟩
          obtain ⟨o, n⟩ := p
          obtain ⟨u1, u2, u3⟩ := esc_used hes
          rw [List.length_drop] at u2
          have hun : U = unq f d (s.drop (k + 1 + n)) (out ++ o) := by rw [← hU, hd]; simp [unq, hes, List.drop_drop]
          have hesc := refEscape_res H.chaseref03_escape hx.wf hs (by omega) hes
          have en : IntKind.i64.wrap ((k : Int) + ((1 + n : Nat) : Int)) = ((k + 1 + n : Nat) : Int) := by rw [wrap64' (by omega) (by omega)]; omega
          rw [← hq] at ek
          obtain ⟨n1', hn1⟩ : ∃ n1, n1 = 1 + n := ⟨_, rfl⟩
          rw [← hn1] at hesc en
          simp [B.chaseref03_Unquote_l0, go_sem, g0, g5, g6, g7, hkl2, hc, ek, hk1', hk1'']
          refine hesc.mono ?_
          rintro vv s1 ⟨sv, rfl, x1', hrd⟩
          have x1 := hx.trans x1'
          have hg1 := hg.ext x1' hx.wf
          simp [go_sem]
          refine (hg1.app x1.nx x1.wf hrd (by omega)).mono ?_
          rintro v2 s2 ⟨o2, f2⟩
          have x2 := x1.frm f2 hg1.ge
          simp [go_sem]
          exact step d o (k + 1 + n) _ _ v2 hun (by omega) (by omega) (by omega) (by omega) (by omega) x2 o2 (by simp [go_sem]) (by simp [go_sem]) (by simp [go_sem]) (by simp [go_sem, en])
      · have n2 : ¬ (c.toNat : Int) = 92 := u8_ne h92 rfl
        have m2 : ¬ c.toNat = 92 := by omega
        by_cases hln : c = 10 ∨ c = 13
        · have hes : endS (s.drop k) = 1 + lineN c (s.drop (k + 1)) := by rw [hd]; exact endS_line hln
          have h40 : ¬ c = 40 := by rintro rfl; simp at hln
          have hun : U = unq f d (s.drop (k + 1 + lineN c (s.drop (k + 1)))) (out ++ [10]) := by rw [← hU, hd]; simp [unq, h92, h40, h41, hln, List.drop_drop]
          have hlu := lineN_used c (s.drop (k + 1))
          rw [List.length_drop] at hlu
          generalize lineN c (s.drop (k + 1)) = L at hes hun hlu
          have eL : IntKind.i64.wrap ((k : Int) + ((1 + L : Nat) : Int)) = ((k + 1 + L : Nat) : Int) := by rw [wrap64' (by omega) (by omega)]; omega
          rw [hes] at hen
          obtain ⟨L1, hL1⟩ : ∃ L1, L1 = 1 + L := ⟨_, rfl⟩
          have hL0 : (0 : Int) < L1 := by omega
          have hL0' : 0 < L1 := by omega
          rw [← hL1] at hen eL
          simp [B.chaseref03_Unquote_l0, go_sem, g0, g5, g6, g7, hkl2, hc, n1, n2, m1, m2]
          refine (hen _ hx.wf).use fun s1 x1' => ?_
          have x1 := hx.trans x1'
          have hg1 := hg.ext x1' hx.wf
          simp [go_sem, hc, NO.run, reps, hL0, hL0']
          refine (hg1.push x1.nx x1.wf (k := 1) (by omega) (c := 10) (by omega)).mono ?_
          rintro v2 s2 ⟨o2, f2⟩
          have x2 := x1.frm f2 hg1.ge
          simp [go_sem]
          refine (hen _ x2.wf).use fun s3 x3' => ?_
          have x3 := x2.trans x3'
          simp [go_sem]
          exact step d [10] (k + 1 + L) _ _ v2 hun (by omega) (by omega) (by omega) (by omega) (by simp) x3 (o2.ext x3' x2.wf) (by simp [go_sem]) (by simp [go_sem]) (by simp [go_sem]) (by simp [go_sem, eL])
        · have he0 : endS (s.drop k) = 0 := by rw [hd]; exact endS_none hln
          rw [he0] at hen
          by_cases h40 : c = 40
          · subst h40
            have hun : U = unq f (d + 1) (s.drop (k + 1)) (out ++ [40]) := by rw [← hU, hd]; simp [unq]
            have e6 : IntKind.i64.wrap ((d : Int) + 1) = ((d + 1 : Nat) : Int) := wrap64' (by omega) (by omega)
            simp [B.chaseref03_Unquote_l0, go_sem, g0, g5, g6, g7, hkl2, hc]
            refine (hen _ hx.wf).use fun s1 x1' => ?_
            have x1 := hx.trans x1'
            have hg1 := hg.ext x1' hx.wf
            simp [go_sem, hc, NO.run, reps]
            refine (hg1.push x1.nx x1.wf (k := 1) (by omega) (c := 40) (by omega)).mono ?_
            rintro v2 s2 ⟨o2, f2⟩
            have x2 := x1.frm f2 hg1.ge
            simp [go_sem]
            exact step (d + 1) [40] (k + 1) _ _ v2 hun (by omega) (by omega) (by omega) (by omega) (by simp) x2 o2 (by simp [go_sem]) (by simp [go_sem]) (by simp [go_sem, e6]) (by simp [go_sem, ek])
          · have hun : U = unq f d (s.drop (k + 1)) (out ++ [c]) := by rw [← hU, hd]; simp [unq, h92, h40, h41, hln]
            have n3 : ¬ (c.toNat : Int) = 40 := u8_ne h40 rfl
            have m3 : ¬ c.toNat = 40 := by omega
            simp [B.chaseref03_Unquote_l0, go_sem, g0, g5, g6, g7, hkl2, hc, n1, n2, m1, m2]
            refine (hen _ hx.wf).use fun s1 x1' => ?_
            have x1 := hx.trans x1'
            have hg1 := hg.ext x1' hx.wf
            simp [go_sem, hc, NO.run, reps, n1, n2, n3, m1, m2, m3]
            refine (hg1.push x1.nx x1.wf (k := 1) (by omega) (c := c) (by omega)).mono ?_
            rintro v2 s2 ⟨o2, f2⟩
            have x2 := x1.frm f2 hg1.ge
            simp [go_sem]
            exact step d [c] (k + 1) _ _ v2 hun (by omega) (by omega) (by omega) (by omega) (by simp) x2 o2 (by simp [go_sem]) (by simp [go_sem]) (by simp [go_sem]) (by simp [go_sem, ek])

theorem refUnquote_tells (H : B.H_chaseref03_Unquote T) (hwf : st.Wf) {s : List UInt8} (hs : s.length < 1000000000000) : Tells T st (.fn 70 [] []) [.str s] (toU (unquoteT s)) := by
  refine tells_of H.e H.f rfl ?_
  simp [B.chaseref03_Unquote, go_sem]
  refine (at_tells H.chaseref03_at hwf hs (i := 0)).use fun s1 x1 => ?_
  rw [List.drop_zero]
  cases s with
  | nil => simp [go_sem, atS, unquoteT, toU, x1]
  | cons c r =>
    by_cases h40 : c = 40
    · subst h40
      have ht : unquoteT (40 :: r) = finU (40 :: r).length (unq (40 :: r).length 1 r []) := by
        rw [unquoteT, if_pos rfl]
        rfl
      simp [go_sem, atS]
      refine (refUnquote_loop H hs st (40 :: r).length 1 1 [] _ s1 .nilslice (by simp; omega) (by simp) (by omega) (by omega) (by simp) x1 (.nil _ _) (by simp [go_sem]) (by simp [go_sem]) (by simp [go_sem]) (by simp [go_sem])).mono ?_
      rw [show (40 :: r : List UInt8).drop 1 = r from rfl, ht]
      generalize unq (40 :: r).length 1 r [] = U
      rintro x e s2 ⟨x2, ⟨rfl, rfl⟩ | ⟨rfl, g2, g3, g4⟩⟩
      · simp [go_sem, toU, finU, x2]
      · simp [go_sem, toU, g2, g3, g4, x2]
    · have n1 : ¬ (c.toNat : Int) = 40 := u8_ne h40 rfl
      have m1 : ¬ c.toNat = 40 := by omega
      simp [go_sem, atS, n1, m1, toU, unquoteT, h40, x1]
end Go.Ev

/- The reference's Quote; LexQuotes told. -/
namespace Go.Ev
open Go
set_option linter.unusedSimpArgs false
set_option linter.unusedSectionVars false
set_option linter.unusedVariables false

variable {T : Tab} {st : St}

/-- A block of octets, appended. -/
theorem GrowS.app {st0 s1 : St} (hF : st0.nx ≤ s1.nx) (hw : s1.Wf) {v : AV} {l m : List UInt8} (a : Sl s1 v 5 1 l.length (u8s l)) (b : Mine [] st0 v) (hm : 0 < m.length) (hl : l.length + m.length < 35184372088831) :
    CRes (aappend 5 1 1 ⟨(s1.nx, .cells 5 false (u8s m)) :: s1.h, s1.nx + 1⟩ v (.slice s1.nx 0 m.length (.known m.length))) fun v' s => Sl s v' 5 1 (l ++ m).length (u8s (l ++ m)) ∧ Mine [] st0 v' ∧ Ext s1 ⟨s1.h, s1.nx⟩ ∧ Frm v.nms s1 s := by
  have xa := Ext.new hw (.cells 5 false (u8s m))
  have hap := Sl.append (x := .slice s1.nx 0 m.length (.known m.length)) (j := m.length) (new := u8s m) (b := 1) (Frm.refl xa.wf v.nms) (fun n h => .inl h) (a.ext xa hw)
    (.inr ⟨_, _, _, rfl, rd_all (ty := 5) (l := false) (by simp [hget_cons]) (by rw [u8s_len, Nat.mul_one])⟩) (by simp [u8s, AV.sc]) (by omega) (by omega) (.inl hm)
  refine hap.mono ?_
  rintro v2 s2 ⟨k1, k2, k3, _⟩
  refine ⟨by rw [u8s_append, List.length_append]; exact k1, fun n hn => ?_, .refl hw, (xa.fr v.nms).trans k2 (fun n h => .inl h)⟩
  rcases k3 n hn with h | h
  · exact b n h
  · simp at h; exact .inr (by omega)

theorem od_eq2 (c : UInt8) : IntKind.u8.wrap (48 + IntKind.u8.wrap ((c.toNat : Int) / 64)) = ((od2 c).toNat : Int) ∧ IntKind.u8.wrap (48 + (IntKind.u8.wrap ((c.toNat : Int) / 8)).tmod 8) = ((od1 c).toNat : Int) ∧ IntKind.u8.wrap (48 + (c.toNat : Int).tmod 8) = ((od0 c).toNat : Int) := by
  have h : (List.range 256).all (fun n => decide (IntKind.u8.wrap (48 + IntKind.u8.wrap (((n : Nat) : Int) / 64)) = ((UInt8.ofNat (48 + n / 64)).toNat : Int)) && decide (IntKind.u8.wrap (48 + (IntKind.u8.wrap (((n : Nat) : Int) / 8)).tmod 8) = ((UInt8.ofNat (48 + n / 8 % 8)).toNat : Int)) && decide (IntKind.u8.wrap (48 + ((n : Nat) : Int).tmod 8) = ((UInt8.ofNat (48 + n % 8)).toNat : Int))) = true := by kernel_rfl
  have := all_octets h c
  simp only [Bool.and_eq_true, decide_eq_true_eq] at this
  exact ⟨this.1.1, this.1.2, this.2⟩

theorem refQuote_loop (H : B.H_chaseref03_Quote T) {s : List UInt8} (hs : s.length < 1000000000000) (st0 : St) : ∀ (m i : Nat) (out : List UInt8) (e : Env) (st1 : St) (v : AV), i + m = s.length → out.length ≤ 1 + 4 * i → Ext st0 st1 → Sl st1 v 5 1 out.length (u8s out) → Mine [] st0 v → eget e 0 = .str s → eget e 3 = v → eget e 4 = .int .i64 i →
    Res (run T (.loop B.chaseref03_Quote_l0) e st1) fun x e' s' => x = .exit 0 ∧ Ext st0 s' ∧ Sl s' (eget e' 3) 5 1 (out ++ (s.drop i).flatMap quoteC).length (u8s (out ++ (s.drop i).flatMap quoteC)) ∧ Mine [] st0 (eget e' 3) := by
  intro m
  induction m with
  | zero =>
    intro i out e st1 v hi ho hx hg hm g0 g3 g4
    have : i = s.length := by omega
    subst this
    have hd : s.drop s.length = [] := by simp
    rw [hd, run_loop]
    simp [B.chaseref03_Quote_l0, go_sem, g0, g3, g4, hx, hg, hm]
  | succ m ih =>
    intro i out e st1 v hi ho hx hg hm g0 g3 g4
    have hil : (i : Int) < s.length := by omega
    obtain ⟨c, hc, hd⟩ := idx_some (s := s) (i := i) (by omega)
    have ek : IntKind.i64.wrap ((i : Int) + 1) = ((i + 1 : Nat) : Int) := wrap64' (by omega) (by omega)
    have hge : ∀ n ∈ v.nms, st0.nx ≤ n := fun n hn => by
      rcases hm n hn with h | h
      · cases h
      · exact h
    have hql := quoteC_len c
    have hap := fun (q : List UInt8) (hq : 0 < q.length) (hq2 : q.length ≤ 4) => GrowS.app (m := q) hx.nx hx.wf hg hm hq (by omega)
    have step : ∀ (e' : Env) (st2 : St) (v' : AV), Ext st0 st2 → Sl st2 v' 5 1 (out ++ quoteC c).length (u8s (out ++ quoteC c)) → Mine [] st0 v' → eget e' 0 = .str s → eget e' 3 = v' → eget e' 4 = .int .i64 ((i + 1 : Nat) : Int) →
        Res (run T (.loop B.chaseref03_Quote_l0) e' st2) fun x e' s' => x = .exit 0 ∧ Ext st0 s' ∧ Sl s' (eget e' 3) 5 1 (out ++ (s.drop i).flatMap quoteC).length (u8s (out ++ (s.drop i).flatMap quoteC)) ∧ Mine [] st0 (eget e' 3) := by
      intro e' st2 v' h1 h2 h3 k0 k3 k4
      have := ih (i + 1) (out ++ quoteC c) e' st2 v' (by omega) (by rw [List.length_append]; omega) h1 h2 h3 k0 k3 k4
      rw [hd, List.flatMap_cons]
      rw [List.append_assoc] at this
      exact this
    generalize out ++ (s.drop i).flatMap quoteC = OUT at step ⊢
    rw [run_loop]
    by_cases h1 : c = 40 ∨ c = 41 ∨ c = 92
    · have hq : quoteC c = [92, c] := by simp [quoteC, h1]
      have hcn : (c.toNat : Int) = 40 ∨ (c.toNat : Int) = 41 ∨ (c.toNat : Int) = 92 := by rcases h1 with rfl | rfl | rfl <;> simp
      rw [hq] at step
      have hap2 := hap [92, c] (by simp) (by simp)
      have hu : u8s [92, c] = [.int .u8 92, .int .u8 (c.toNat : Int)] := rfl
      rw [hu] at hap2
      obtain ⟨n, hn⟩ : ∃ n : Int, n = c.toNat := ⟨_, rfl⟩
      rw [← hn] at hcn hap2
      rcases hcn with rfl | rfl | rfl
      all_goals
        simp [B.chaseref03_Quote_l0, go_sem, g0, g3, g4, hil, hc, ← hn, NO.run, reps]
        refine hap2.mono ?_
        rintro v2 s2 ⟨o2, m2, _, f2⟩
        simp [go_sem, ek]
        exact step _ _ v2 (hx.frm f2 hge) o2 m2 (by simp [go_sem]) (by simp [go_sem]) (by simp [go_sem])
    · simp only [not_or] at h1
      have n1 : ¬ (c.toNat : Int) = 40 := u8_ne h1.1 rfl
      have n2 : ¬ (c.toNat : Int) = 41 := u8_ne h1.2.1 rfl
      have n3 : ¬ (c.toNat : Int) = 92 := u8_ne h1.2.2 rfl
      have m1 : ¬ c.toNat = 40 := by omega
      have m2 : ¬ c.toNat = 41 := by omega
      have m3 : ¬ c.toNat = 92 := by omega
      by_cases h2 : c.toNat < 32 ∨ 126 < c.toNat
      · have hq : quoteC c = [92, od2 c, od1 c, od0 c] := by simp [quoteC, h1, h2]
        obtain ⟨d2, d1, d0⟩ := od_eq2 c
        rw [hq] at step
        have hap2 := hap [92, od2 c, od1 c, od0 c] (by simp) (by simp)
        have hu : u8s [92, od2 c, od1 c, od0 c] = [.int .u8 92, .int .u8 ((od2 c).toNat : Int), .int .u8 ((od1 c).toNat : Int), .int .u8 ((od0 c).toNat : Int)] := rfl
        rw [hu] at hap2
        have h2' : ¬ (32 : Int) ≤ c.toNat ∨ (32 : Int) ≤ c.toNat ∧ ¬ (c.toNat : Int) ≤ 126 := by omega
        rcases h2' with h2' | ⟨h2', h2''⟩
        · simp [B.chaseref03_Quote_l0, go_sem, g0, g3, g4, hil, hc, n1, n2, n3, m1, m2, m3, h2', d2, d1, d0, NO.run, reps]
          refine hap2.mono ?_
          rintro v2 s2 ⟨o2, mm2, _, f2⟩
          simp [go_sem, ek]
          exact step _ _ v2 (hx.frm f2 hge) o2 mm2 (by simp [go_sem]) (by simp [go_sem]) (by simp [go_sem])
        · simp [B.chaseref03_Quote_l0, go_sem, g0, g3, g4, hil, hc, n1, n2, n3, m1, m2, m3, h2', h2'', d2, d1, d0, NO.run, reps]
          refine hap2.mono ?_
          rintro v2 s2 ⟨o2, mm2, _, f2⟩
          simp [go_sem, ek]
          exact step _ _ v2 (hx.frm f2 hge) o2 mm2 (by simp [go_sem]) (by simp [go_sem]) (by simp [go_sem])
      · have hq : quoteC c = [c] := by simp [quoteC, h1, h2]
        rw [hq] at step
        have hap2 := hap [c] (by simp) (by simp)
        have hu : u8s [c] = [.int .u8 (c.toNat : Int)] := rfl
        rw [hu] at hap2
        have h2' : (32 : Int) ≤ c.toNat := by omega
        have h2'' : (c.toNat : Int) ≤ 126 := by omega
        simp [B.chaseref03_Quote_l0, go_sem, g0, g3, g4, hil, hc, n1, n2, n3, m1, m2, m3, h2', h2'', NO.run, reps]
        refine hap2.mono ?_
        rintro v2 s2 ⟨o2, mm2, _, f2⟩
        simp [go_sem, ek]
        exact step _ _ v2 (hx.frm f2 hge) o2 mm2 (by simp [go_sem]) (by simp [go_sem]) (by simp [go_sem])

theorem refQuote_tells (H : B.H_chaseref03_Quote T) (hwf : st.Wf) {s : List UInt8} (hs : s.length < 1000000000000) : Tells T st (.fn 72 [] []) [.str s] (.str (quoteS s)) := by
  refine tells_of H.e H.f rfl ?_
  have hx := Ext.new hwf (.cells 5 false [.int .u8 40])
  have hg : Sl ⟨(st.nx, .cells 5 false [.int .u8 40]) :: st.h, st.nx + 1⟩ (.slice st.nx 0 1 (.known 1)) 5 1 ([40] : List UInt8).length (u8s [40]) := ⟨st.nx, .made 5 rfl (by simp [hget_cons]; rfl) rfl⟩
  have hm : Mine [] st (.slice st.nx 0 1 (.known 1)) := fun n hn => by simp [AV.nms] at hn; subst hn; exact .inr (Nat.le_refl _)
  simp [B.chaseref03_Quote, go_sem, NO.run, reps]
  refine (refQuote_loop H hs st s.length 0 [40] _ _ _ (by simp) (by simp) hx hg hm (by simp [go_sem]) (by simp [go_sem]) (by simp [go_sem])).mono ?_
  rintro x e s2 ⟨rfl, x2, g2, m2⟩
  have hlen : ∀ l : List UInt8, (l.flatMap quoteC).length ≤ 4 * l.length := by
    intro l
    induction l with
    | nil => simp
    | cons c l ih =>
      have := quoteC_len c
      simp only [List.flatMap_cons, List.length_append, List.length_cons]
      omega
  have := hlen s
  rw [List.drop_zero] at g2
  obtain ⟨v, hv⟩ : ∃ v, eget e 3 = v := ⟨_, rfl⟩
  rw [hv] at g2 m2
  have hge : ∀ n ∈ v.nms, st.nx ≤ n := fun n hn => by
    rcases m2 n hn with h | h
    · cases h
    · exact h
  have hap := GrowS.app (m := [41]) x2.nx x2.wf g2 m2 (by simp) (by simp only [List.length_append, List.length_cons, List.length_nil]; omega)
  have hu : u8s [41] = [.int .u8 41] := rfl
  rw [hu] at hap
  simp [go_sem, hv, NO.run, reps]
  refine hap.mono ?_
  rintro v3 s3 ⟨o3, m3, _, f3⟩
  have hq : [40] ++ s.flatMap quoteC ++ [41] = quoteS s := by simp [quoteS]
  rw [hq] at o3
  have x3 := x2.frm f3 hge
  have hz := toBytes_u8s (quoteS s)
  rcases o3.rd with ⟨h1, h2, h3⟩ | ⟨n, off, cp, h1, h2⟩
  · simp [quoteS] at h2
  · subst h1
    rw [Nat.mul_one] at h2
    simp [go_sem, RO.run, h2, hz, x3]

theorem quotes_l0 {l : List UInt8} {v : AV} (hl : l.length ≤ 60) (s : List UInt8) : ∀ (m i : Nat) (O : List UInt8) (e : Env), i + m = l.length → O.length ≤ 1 + i → InL st.h v l → eget e 0 = .str s → eget e 5 = .str O → eget e 28 = v → eget e 29 = .int .i64 l.length → eget e 30 = .int .i64 i →
    Res (run T (.loop B.chaselaw03_LexQuotes_l0) e st) fun x e' s' => x = .exit 0 ∧ s' = st ∧ eget e' 0 = .str s ∧ ∃ O', eget e' 5 = .str O' ∧ O'.length ≤ 61 := by
  intro m
  induction m with
  | zero =>
    intro i O e hi hO hv g0 g5 g28 g29 g30
    have : i = l.length := by omega
    subst this
    rw [run_loop]
    simp [B.chaselaw03_LexQuotes_l0, go_sem, g0, g5, g28, g29, g30]
    omega
  | succ m ih =>
    intro i O e hi hO hv g0 g5 g28 g29 g30
    have hil : (i : Int) < l.length := by omega
    obtain ⟨c, hc, hd⟩ := idx_some (s := l) (i := i) (by omega)
    obtain ⟨n, hvn, hr⟩ := hv.at hc
    have e30 : IntKind.i64.wrap ((i : Int) + 1) = ((i + 1 : Nat) : Int) := wrap64' (by omega) (by omega)
    have ec : IntKind.i64.wrap ((c.toNat : Nat) : Int) = c.toNat := wrap64' (by omega) (by have := c.toNat_lt; omega)
    have hm : (c.toNat : Int).tmod 19 = ((c.toNat % 19 : Nat) : Int) := by rw [Int.tmod_eq_emod_of_nonneg (by omega)]; omega
    have hlt : c.toNat % 19 < 19 := Nat.mod_lt _ (by omega)
    generalize c.toNat % 19 = j at hm hlt
    have ej : IntKind.i64.wrap ((j : Int) + 1) = ((j + 1 : Nat) : Int) := wrap64' (by omega) (by omega)
    obtain ⟨M, hM⟩ : ∃ M : List UInt8, M = [40, 40, 40, 40, 41, 41, 41, 92, 92, 92, 92, 10, 13, 48, 49, 50, 55, 110, 120] := ⟨_, rfl⟩
    have hML : M.length = 19 := by rw [hM]; rfl
    have hsub : asubS M (some (.int .i64 (j : Int))) (some (.int .i64 ((j + 1 : Nat) : Int))) = some (.str ((M.drop j).take 1)) := by
      rw [asubS_some (by omega) (by omega) (by omega)]
      congr 3
      omega
    have hl1 : ((M.drop j).take 1).length = 1 := by rw [List.length_take, List.length_drop]; omega
    generalize (M.drop j).take 1 = Q at hsub hl1
    obtain ⟨j1, hj1⟩ : ∃ j1, j1 = j + 1 := ⟨_, rfl⟩
    rw [← hj1] at ej hsub
    subst hvn
    rw [hM] at hsub
    rw [run_loop]
    simp [B.chaselaw03_LexQuotes_l0, go_sem, g0, g5, g28, g29, g30, hil, RO.run, hr, ec, hm, ej, hsub, hl1]
    rw [if_pos (by omega)]
    simp [go_sem]
    refine ih (i + 1) (O ++ Q) _ (by omega) (by rw [List.length_append]; omega) hv ?_ ?_ ?_ ?_ ?_
    · simp [go_sem]
    · simp [go_sem]
    · simp [go_sem]
    · simp [go_sem]
    · simp [go_sem, e30]

theorem quotes_l1 (H : B.H_chaselaw03_LexQuotes T) {a0 a1 a2 a3 : List UInt8} (h0 : a0.length < 1000000000000) (h1 : a1.length < 1000000000000) (h2 : a2.length < 1000000000000) (h3 : a3.length < 1000000000000) {st0 : St} (hx : Ext st0 st) {e : Env} (g51 : eget e 51 = .agg [.str a0, .str a1, .str a2, .str a3]) (g52 : eget e 52 = .int .i64 0) :
    Res (run T (.loop B.chaselaw03_LexQuotes_l1) e st) fun x e' s' => x = .exit 2 ∧ Ext st0 s' := by
  have w0 : IntKind.i64.wrap 1 = 1 := rfl
  have w1 : IntKind.i64.wrap 2 = 2 := rfl
  have w2 : IntKind.i64.wrap 3 = 3 := rfl
  have w3 : IntKind.i64.wrap 4 = 4 := rfl
  have z := hx
  rw [run_loop]
  simp [B.chaselaw03_LexQuotes_l1, go_sem, g51, g52]
  refine (unquote_tells H.lex_Unquote hx.wf h0).use fun s01 x01 => ?_
  simp [go_sem, toU]
  refine (refUnquote_tells H.chaseref03_Unquote x01.wf h0).use fun s02 x02 => ?_
  simp [go_sem, toU, seq8_eq]
  refine (quote_tells H.lex_Quote x02.wf h0).use fun s03 x03 => ?_
  simp [go_sem]
  refine (refQuote_tells H.chaseref03_Quote x03.wf h0).use fun s04 x04 => ?_
  simp [go_sem, seq8_eq]
  have z0 := (((hx.trans x01).trans x02).trans x03).trans x04
  rw [run_loop]
  simp [B.chaselaw03_LexQuotes_l1, go_sem, w0]
  refine (unquote_tells H.lex_Unquote z0.wf h1).use fun s11 x11 => ?_
  simp [go_sem, toU]
  refine (refUnquote_tells H.chaseref03_Unquote x11.wf h1).use fun s12 x12 => ?_
  simp [go_sem, toU, seq8_eq]
  refine (quote_tells H.lex_Quote x12.wf h1).use fun s13 x13 => ?_
  simp [go_sem]
  refine (refQuote_tells H.chaseref03_Quote x13.wf h1).use fun s14 x14 => ?_
  simp [go_sem, seq8_eq]
  have z1 := (((z0.trans x11).trans x12).trans x13).trans x14
  rw [run_loop]
  simp [B.chaselaw03_LexQuotes_l1, go_sem, w1]
  refine (unquote_tells H.lex_Unquote z1.wf h2).use fun s21 x21 => ?_
  simp [go_sem, toU]
  refine (refUnquote_tells H.chaseref03_Unquote x21.wf h2).use fun s22 x22 => ?_
  simp [go_sem, toU, seq8_eq]
  refine (quote_tells H.lex_Quote x22.wf h2).use fun s23 x23 => ?_
  simp [go_sem]
  refine (refQuote_tells H.chaseref03_Quote x23.wf h2).use fun s24 x24 => ?_
  simp [go_sem, seq8_eq]
  have z2 := (((z1.trans x21).trans x22).trans x23).trans x24
  rw [run_loop]
  simp [B.chaselaw03_LexQuotes_l1, go_sem, w2]
  refine (unquote_tells H.lex_Unquote z2.wf h3).use fun s31 x31 => ?_
  simp [go_sem, toU]
  refine (refUnquote_tells H.chaseref03_Unquote x31.wf h3).use fun s32 x32 => ?_
  simp [go_sem, toU, seq8_eq]
  refine (quote_tells H.lex_Quote x32.wf h3).use fun s33 x33 => ?_
  simp [go_sem]
  refine (refQuote_tells H.chaseref03_Quote x33.wf h3).use fun s34 x34 => ?_
  simp [go_sem, seq8_eq]
  have z3 := (((z2.trans x31).trans x32).trans x33).trans x34
  rw [run_loop]
  simp [B.chaselaw03_LexQuotes_l1, go_sem, w3]
  exact z3

theorem quotes_tells (H : B.H_chaselaw03_LexQuotes T) (hwf : st.Wf) {s : List UInt8} (hs : s.length ≤ 140737488351232) {v : AV} {l : List UInt8} (hv : InL st.h v l) (hl : l.length < 9223372036854775808) : Tells T st (.fn 59 [] []) [.str s, v] (.bool true) := by
  refine tells_of H.e H.f rfl ?_
  simp [B.chaselaw03_LexQuotes, go_sem]
  refine (works_tells H.chaselaw03_works hwf).use fun s1 x1 => ?_
  obtain ⟨ks, hks⟩ : ∃ ks, ks = min s.length 1200 := ⟨_, rfl⟩
  have hmins : (if (1200 : Int) < (s.length : Int) then 1200 else (s.length : Int)) = (ks : Int) := by rw [hks]; split <;> omega
  have hsubs : asubS s none (some (.int .i64 (ks : Int))) = some (.str (s.take ks)) := by
    rw [asubS_to (by omega) (by omega)]; simp
  have hsl : (s.take ks).length ≤ 1200 := by rw [List.length_take]; omega
  generalize s.take ks = S at hsubs hsl
  simp [go_sem, hmins, hsubs]
  rcases hv with ⟨rfl, rfl⟩ | ⟨n, full, rfl, h2, h3⟩
  · simp [go_sem, asubL, abounds, bnd, abound, topOf, subCap]
    refine (quotes_l0 (l := []) (v := .nilslice) (by simp) S 0 0 [40] _ (by simp) (by simp) (.inl ⟨rfl, rfl⟩) (by simp [go_sem]) (by simp [go_sem]) (by simp [go_sem]) (by simp [go_sem]) (by simp [go_sem])).mono ?_
    rintro x e s2 ⟨rfl, rfl, g0, O, g5, hO⟩
    simp [go_sem, g0, g5]
    rw [if_pos (by omega)]
    simp [go_sem]
    rw [if_pos (by omega)]
    simp [go_sem]
    rw [if_pos (by omega)]
    simp [go_sem]
    refine (quotes_l1 H (a0 := S) (a1 := 40 :: (S ++ [41])) (a2 := O) (a3 := O ++ [41, 41, 41, 41, 41, 41, 41]) (by omega) (by simp; omega) (by omega) (by simp; omega) x1 (by simp [go_sem]) (by simp [go_sem])).mono ?_
    rintro x e s3 ⟨rfl, x3⟩
    simp [go_sem, x3]
  · obtain ⟨k, hk⟩ : ∃ k, k = min l.length 60 := ⟨_, rfl⟩
    have hmin : (if (60 : Int) < (l.length : Int) then 60 else (l.length : Int)) = (k : Int) := by rw [hk]; split <;> omega
    have hle : l.length ≤ full.length := by
      have := congrArg List.length h3
      rw [List.length_take] at this; omega
    have hk2 : (l.take k).length = k := by rw [List.length_take]; omega
    have hv2 : InL s1.h (.slice n 0 k .unk) (l.take k) := .inr ⟨n, full, by rw [hk2], x1.get hwf h2, by rw [hk2]; conv => lhs; rw [h3]; rw [List.take_take, Nat.min_eq_left (by omega)]⟩
    have hsub : asubL 1 n 0 l.length .unk none (some (.int .i64 (k : Int))) none = some (.slice n 0 k .unk) := by
      simp only [asubL]
      rw [abounds_hi (by omega) (show (k : Int) ≤ (topOf l.length .unk : Nat) by show (k : Int) ≤ (l.length : Nat); omega)]
      simp [subCap]
    simp [go_sem, hmin, hsub]
    refine (quotes_l0 (l := l.take k) (v := .slice n 0 k .unk) (by omega) S k 0 [40] _ (by omega) (by simp) hv2 (by simp [go_sem]) (by simp [go_sem]) (by simp [go_sem]) (by simp [go_sem, hk2]) (by simp [go_sem])).mono ?_
    rintro x e s2 ⟨rfl, rfl, g0, O, g5, hO⟩
    simp [go_sem, g0, g5]
    rw [if_pos (by omega)]
    simp [go_sem]
    rw [if_pos (by omega)]
    simp [go_sem]
    rw [if_pos (by omega)]
    simp [go_sem]
    refine (quotes_l1 H (a0 := S) (a1 := 40 :: (S ++ [41])) (a2 := O) (a3 := O ++ [41, 41, 41, 41, 41, 41, 41]) (by omega) (by simp; omega) (by omega) (by simp; omega) x1 (by simp [go_sem]) (by simp [go_sem])).mono ?_
    rintro x e s3 ⟨rfl, x3⟩
    simp [go_sem, x3]
end Go.Ev

/- The functions that the law LexQuotes reaches: their numbers, and the check of each body, printed by a program of this work. -/
namespace Go.Ev.LexQuotes
open Go Go.Proofs Go.Ev
def phiT : NT := (.node (.node (.node (.node (.node (.node .nil 59 4 .nil) 62 7 (.node .nil 63 8 .nil)) 65 10 (.node (.node .nil 67 12 .nil) 69 14 (.node .nil 70 15 .nil))) 71 16 (.node 
  (.node (.node .nil 72 17 .nil) 73 19 (.node .nil 74 20 .nil)) 75 21 (.node (.node .nil 76 22 .nil) 77 23 .nil))) 82 28 (.node (.node (.node (.node .nil 84 30 .nil) 86 32 (.node .nil 
  87 33 .nil)) 88 34 (.node (.node .nil 89 35 .nil) 90 36 (.node .nil 91 37 .nil))) 92 38 (.node (.node (.node .nil 93 44 .nil) 94 40 (.node .nil 95 45 .nil)) 96 46 (.node (.node .nil 
  97 47 .nil) 98 48 .nil)))) 99 49 (.node (.node (.node (.node (.node .nil 100 50 .nil) 106 57 (.node .nil 107 58 .nil)) 108 59 (.node (.node .nil 109 60 .nil) 110 65 (.node .nil 111 
  66 .nil))) 112 67 (.node (.node (.node .nil 113 70 .nil) 114 71 (.node .nil 115 72 .nil)) 116 73 (.node (.node .nil 117 75 .nil) 118 76 .nil))) 119 78 (.node (.node (.node (.node .nil 
  120 85 .nil) 121 86 (.node .nil 122 79 .nil)) 123 63 (.node (.node .nil 140 68 .nil) 141 69 (.node .nil 142 80 .nil))) 143 81 (.node (.node (.node .nil 144 82 .nil) 145 83 (.node .nil 
  146 84 .nil)) 147 90 (.node (.node .nil 148 88 .nil) 149 87 .nil)))))
def tauT : NT := (.node (.node (.node (.node (.node (.node (.node (.node .nil 0 0 .nil) 1 1 .nil) 2 2 (.node .nil 3 3 .nil)) 4 4 (.node (.node .nil 5 5 .nil) 6 6 (.node .nil 7 7 .nil))) 
  8 8 (.node (.node (.node (.node .nil 9 9 .nil) 10 10 .nil) 11 11 (.node .nil 12 12 .nil)) 13 13 (.node (.node .nil 14 14 .nil) 15 15 (.node .nil 16 16 .nil)))) 17 17 (.node (.node (.node 
  (.node (.node .nil 18 18 .nil) 19 19 .nil) 20 20 (.node .nil 21 21 .nil)) 25 23 (.node (.node .nil 27 80 .nil) 28 72 (.node .nil 30 27 .nil))) 35 22 (.node (.node (.node .nil 37 33 
  .nil) 42 37 (.node .nil 43 76 .nil)) 44 24 (.node (.node .nil 45 49 .nil) 48 124 (.node .nil 79 73 .nil))))) 80 74 (.node (.node (.node (.node (.node (.node .nil 81 75 .nil) 82 66 .nil) 
  83 67 (.node .nil 84 68 .nil)) 85 77 (.node (.node .nil 86 69 .nil) 87 70 (.node .nil 88 78 .nil))) 89 79 (.node (.node (.node (.node .nil 102 93 .nil) 103 94 .nil) 104 95 (.node .nil 
  105 96 .nil)) 106 97 (.node (.node .nil 107 98 .nil) 108 92 (.node .nil 110 90 .nil)))) 114 115 (.node (.node (.node (.node (.node .nil 115 116 .nil) 116 117 .nil) 120 89 (.node .nil 
  121 128 .nil)) 122 129 (.node (.node .nil 123 130 .nil) 124 131 (.node .nil 125 132 .nil))) 126 133 (.node (.node (.node .nil 127 134 .nil) 128 135 (.node .nil 129 136 .nil)) 130 137 
  (.node (.node .nil 131 138 .nil) 132 139 (.node .nil 133 25 .nil)))))) 134 26 (.node (.node (.node (.node (.node (.node (.node .nil 135 28 .nil) 136 29 .nil) 137 30 (.node .nil 138 
  31 .nil)) 139 32 (.node (.node .nil 140 34 .nil) 141 35 (.node .nil 142 36 .nil))) 143 38 (.node (.node (.node (.node .nil 144 39 .nil) 145 40 .nil) 146 41 (.node .nil 147 42 .nil)) 
  148 43 (.node (.node .nil 149 44 .nil) 150 45 (.node .nil 151 46 .nil)))) 152 47 (.node (.node (.node (.node (.node .nil 153 48 .nil) 154 50 .nil) 155 51 (.node .nil 156 52 .nil)) 157 
  53 (.node (.node .nil 158 54 .nil) 159 55 (.node .nil 160 56 .nil))) 161 57 (.node (.node (.node .nil 162 58 .nil) 163 59 (.node .nil 164 60 .nil)) 165 61 (.node (.node .nil 166 62 
  .nil) 167 63 (.node .nil 168 64 .nil))))) 169 65 (.node (.node (.node (.node (.node (.node .nil 170 71 .nil) 171 81 .nil) 172 82 (.node .nil 173 83 .nil)) 174 84 (.node (.node .nil 
  175 85 .nil) 176 86 (.node .nil 177 87 .nil))) 178 88 (.node (.node (.node (.node .nil 179 91 .nil) 180 99 .nil) 181 100 (.node .nil 182 101 .nil)) 183 102 (.node (.node .nil 184 103 
  .nil) 185 105 (.node .nil 186 106 .nil)))) 187 107 (.node (.node (.node (.node (.node .nil 188 108 .nil) 189 109 .nil) 190 110 (.node .nil 191 111 .nil)) 192 112 (.node (.node .nil 
  193 113 .nil) 194 114 (.node .nil 195 118 .nil))) 196 119 (.node (.node (.node .nil 197 120 .nil) 198 121 (.node .nil 199 122 .nil)) 200 123 (.node (.node .nil 201 125 .nil) 202 126 
  (.node .nil 203 127 .nil)))))))
def gamT : NT := (.node .nil 0 0 .nil)
noncomputable def cx : Cx := ⟨Try.prog, phiT.get, tauT.get, gamT.get⟩
theorem k_chaselaw03_LexQuotes : FnOK cx 59 B.chaselaw03_LexQuotes := fnOK_of (by kernel_rfl) Try.func4 (by kernel_rfl)
theorem k_chaselaw03_works : FnOK cx 62 B.chaselaw03_works := fnOK_of (by kernel_rfl) Try.func7 (by kernel_rfl)
theorem k_lex_Number : FnOK cx 63 B.lex_Number := fnOK_of (by kernel_rfl) Try.func8 (by kernel_rfl)
theorem k_lex_Word : FnOK cx 65 B.lex_Word := fnOK_of (by kernel_rfl) Try.func10 (by kernel_rfl)
theorem k_lex_Regular : FnOK cx 67 B.lex_Regular := fnOK_of (by kernel_rfl) Try.func12 (by kernel_rfl)
theorem k_lex_Unquote : FnOK cx 69 B.lex_Unquote := fnOK_of (by kernel_rfl) Try.func14 (by kernel_rfl)
theorem k_chaseref03_Unquote : FnOK cx 70 B.chaseref03_Unquote := fnOK_of (by kernel_rfl) Try.func15 (by kernel_rfl)
theorem k_lex_Quote : FnOK cx 71 B.lex_Quote := fnOK_of (by kernel_rfl) Try.func16 (by kernel_rfl)
theorem k_chaseref03_Quote : FnOK cx 72 B.chaseref03_Quote := fnOK_of (by kernel_rfl) Try.func17 (by kernel_rfl)
theorem k_chaselaw03_number : FnOK cx 73 B.chaselaw03_number := fnOK_of (by kernel_rfl) Try.func19 (by kernel_rfl)
theorem k_lex_Check : FnOK cx 74 B.lex_Check := fnOK_of (by kernel_rfl) Try.func20 (by kernel_rfl)
theorem k_lex_numeral_whole : FnOK cx 75 B.lex_numeral_whole := fnOK_of (by kernel_rfl) Try.func21 (by kernel_rfl)
theorem k_lex_numeral_radix : FnOK cx 76 B.lex_numeral_radix := fnOK_of (by kernel_rfl) Try.func22 (by kernel_rfl)
theorem k_lex_numeral_decimal : FnOK cx 77 B.lex_numeral_decimal := fnOK_of (by kernel_rfl) Try.func23 (by kernel_rfl)
theorem k_lex_regular : FnOK cx 82 B.lex_regular := fnOK_of (by kernel_rfl) Try.func28 (by kernel_rfl)
theorem k_lex_quoted_next : FnOK cx 86 B.lex_quoted_next := fnOK_of (by kernel_rfl) Try.func32 (by kernel_rfl)
theorem k_lex_quoted_run : FnOK cx 87 B.lex_quoted_run := fnOK_of (by kernel_rfl) Try.func33 (by kernel_rfl)
theorem k_chaseref03_at : FnOK cx 88 B.chaseref03_at := fnOK_of (by kernel_rfl) Try.func34 (by kernel_rfl)
theorem k_chaseref03_escape : FnOK cx 89 B.chaseref03_escape := fnOK_of (by kernel_rfl) Try.func35 (by kernel_rfl)
theorem k_chaseref03_ended : FnOK cx 90 B.chaseref03_ended := fnOK_of (by kernel_rfl) Try.func36 (by kernel_rfl)
theorem k_strings_Builder_WriteByte : FnOK cx 91 B.strings_Builder_WriteByte := fnOK_of (by kernel_rfl) Try.func37 (by kernel_rfl)
theorem k_strings_Builder_String : FnOK cx 92 B.strings_Builder_String := fnOK_of (by kernel_rfl) Try.func38 (by kernel_rfl)
theorem k_lex_right : FnOK cx 93 B.lex_right := fnOK_of (by kernel_rfl) Try.func44 (by kernel_rfl)
theorem k_strings_HasPrefix : FnOK cx 94 B.strings_HasPrefix := fnOK_of (by kernel_rfl) Try.func40 (by kernel_rfl)
theorem k_lex_count : FnOK cx 95 B.lex_count := fnOK_of (by kernel_rfl) Try.func45 (by kernel_rfl)
theorem k_lex_numeral_answer : FnOK cx 96 B.lex_numeral_answer := fnOK_of (by kernel_rfl) Try.func46 (by kernel_rfl)
theorem k_strings_Cut : FnOK cx 97 B.strings_Cut := fnOK_of (by kernel_rfl) Try.func47 (by kernel_rfl)
theorem k_strings_ContainsAny : FnOK cx 98 B.strings_ContainsAny := fnOK_of (by kernel_rfl) Try.func48 (by kernel_rfl)
theorem k_lex_pattern : FnOK cx 99 B.lex_pattern := fnOK_of (by kernel_rfl) Try.func49 (by kernel_rfl)
theorem k_real_Parse : FnOK cx 100 B.real_Parse := fnOK_of (by kernel_rfl) Try.func50 (by kernel_rfl)
theorem k_lex_quoted_escape : FnOK cx 106 B.lex_quoted_escape := fnOK_of (by kernel_rfl) Try.func57 (by kernel_rfl)
theorem k_lex_quoted_line : FnOK cx 107 B.lex_quoted_line := fnOK_of (by kernel_rfl) Try.func58 (by kernel_rfl)
theorem k_chaseref03_octal : FnOK cx 108 B.chaseref03_octal := fnOK_of (by kernel_rfl) Try.func59 (by kernel_rfl)
theorem k_strings_Builder_copyCheck : FnOK cx 109 B.strings_Builder_copyCheck := fnOK_of (by kernel_rfl) Try.func60 (by kernel_rfl)
theorem k_real_Is : FnOK cx 110 B.real_Is := fnOK_of (by kernel_rfl) Try.func65 (by kernel_rfl)
theorem k_lex_named : FnOK cx 111 B.lex_named := fnOK_of (by kernel_rfl) Try.func66 (by kernel_rfl)
theorem k_lex_digits : FnOK cx 112 B.lex_digits := fnOK_of (by kernel_rfl) Try.func67 (by kernel_rfl)
theorem k_real_scanner_decimal : FnOK cx 113 B.real_scanner_decimal := fnOK_of (by kernel_rfl) Try.func70 (by kernel_rfl)
theorem k_real_front : FnOK cx 114 B.real_front := fnOK_of (by kernel_rfl) Try.func71 (by kernel_rfl)
theorem k_real_fraction : FnOK cx 115 B.real_fraction := fnOK_of (by kernel_rfl) Try.func72 (by kernel_rfl)
theorem k_real_double : FnOK cx 116 B.real_double := fnOK_of (by kernel_rfl) Try.func73 (by kernel_rfl)
theorem k_lex_letters : FnOK cx 117 B.lex_letters := fnOK_of (by kernel_rfl) Try.func75 (by kernel_rfl)
theorem k_lex_digits_1 : FnOK cx 119 B.lex_digits_1 := fnOK_of (by kernel_rfl) Try.func78 (by kernel_rfl)
theorem k_real_scanner_one : FnOK cx 120 B.real_scanner_one := fnOK_of (by kernel_rfl) Try.func85 (by kernel_rfl)
theorem k_real_scanner_digits : FnOK cx 121 B.real_scanner_digits := fnOK_of (by kernel_rfl) Try.func86 (by kernel_rfl)
theorem k_lex_value : FnOK cx 122 B.lex_value := fnOK_of (by kernel_rfl) Try.func79 (by kernel_rfl)
theorem k_stringslite_HasPrefix : FnOK cx 123 B.stringslite_HasPrefix := fnOK_of (by kernel_rfl) Try.func63 (by kernel_rfl)
theorem k_stringslite_Cut : FnOK cx 140 B.stringslite_Cut := fnOK_of (by kernel_rfl) Try.func68 (by kernel_rfl)
theorem k_strings_IndexAny : FnOK cx 141 B.strings_IndexAny := fnOK_of (by kernel_rfl) Try.func69 (by kernel_rfl)
theorem k_strings_IndexRune : FnOK cx 143 B.strings_IndexRune := fnOK_of (by kernel_rfl) Try.func81 (by kernel_rfl)
theorem k_strings_shouldUseASCIISet : FnOK cx 144 B.strings_shouldUseASCIISet := fnOK_of (by kernel_rfl) Try.func82 (by kernel_rfl)
theorem k_strings_makeASCIISet : FnOK cx 145 B.strings_makeASCIISet := fnOK_of (by kernel_rfl) Try.func83 (by kernel_rfl)
theorem k_strings_asciiSet_contains : FnOK cx 146 B.strings_asciiSet_contains := fnOK_of (by kernel_rfl) Try.func84 (by kernel_rfl)
theorem k_unicode_utf8_ValidRune : FnOK cx 147 B.unicode_utf8_ValidRune := fnOK_of (by kernel_rfl) Try.func90 (by kernel_rfl)
theorem k_bytealg_Cutover : FnOK cx 148 B.bytealg_Cutover := fnOK_of (by kernel_rfl) Try.func88 (by kernel_rfl)
def fnT : FT := (.node (.node (.node (.node (.node (.node .nil 59 B.chaselaw03_LexQuotes .nil) 62 B.chaselaw03_works (.node .nil 63 B.lex_Number .nil)) 65 B.lex_Word (.node (.node .nil 
  67 B.lex_Regular .nil) 69 B.lex_Unquote .nil)) 70 B.chaseref03_Unquote (.node (.node (.node .nil 71 B.lex_Quote .nil) 72 B.chaseref03_Quote (.node .nil 73 B.chaselaw03_number .nil)) 
  74 B.lex_Check (.node (.node .nil 75 B.lex_numeral_whole .nil) 76 B.lex_numeral_radix .nil))) 77 B.lex_numeral_decimal (.node (.node (.node (.node .nil 82 B.lex_regular .nil) 86 B.lex_quoted_next 
  (.node .nil 87 B.lex_quoted_run .nil)) 88 B.chaseref03_at (.node (.node .nil 89 B.chaseref03_escape .nil) 90 B.chaseref03_ended .nil)) 91 B.strings_Builder_WriteByte (.node (.node (.node 
  .nil 92 B.strings_Builder_String .nil) 93 B.lex_right (.node .nil 94 B.strings_HasPrefix .nil)) 95 B.lex_count (.node (.node .nil 96 B.lex_numeral_answer .nil) 97 B.strings_Cut .nil)))) 
  98 B.strings_ContainsAny (.node (.node (.node (.node (.node .nil 99 B.lex_pattern .nil) 100 B.real_Parse (.node .nil 106 B.lex_quoted_escape .nil)) 107 B.lex_quoted_line (.node (.node 
  .nil 108 B.chaseref03_octal .nil) 109 B.strings_Builder_copyCheck .nil)) 110 B.real_Is (.node (.node (.node .nil 111 B.lex_named .nil) 112 B.lex_digits (.node .nil 113 B.real_scanner_decimal 
  .nil)) 114 B.real_front (.node (.node .nil 115 B.real_fraction .nil) 116 B.real_double .nil))) 117 B.lex_letters (.node (.node (.node (.node .nil 119 B.lex_digits_1 .nil) 120 B.real_scanner_one 
  (.node .nil 121 B.real_scanner_digits .nil)) 122 B.lex_value (.node (.node .nil 123 B.stringslite_HasPrefix .nil) 140 B.stringslite_Cut .nil)) 141 B.strings_IndexAny (.node (.node (.node 
  .nil 143 B.strings_IndexRune .nil) 144 B.strings_shouldUseASCIISet (.node .nil 145 B.strings_makeASCIISet .nil)) 146 B.strings_asciiSet_contains (.node (.node .nil 147 B.unicode_utf8_ValidRune 
  .nil) 148 B.bytealg_Cutover .nil)))))
theorem fnT_all : fnT.All (FnOK cx) := ⟨⟨⟨⟨⟨⟨trivial, k_chaselaw03_LexQuotes, trivial⟩, k_chaselaw03_works, ⟨trivial, k_lex_Number, trivial⟩⟩, k_lex_Word, ⟨⟨trivial, k_lex_Regular, 
  trivial⟩, k_lex_Unquote, trivial⟩⟩, k_chaseref03_Unquote, ⟨⟨⟨trivial, k_lex_Quote, trivial⟩, k_chaseref03_Quote, ⟨trivial, k_chaselaw03_number, trivial⟩⟩, k_lex_Check, ⟨⟨trivial, k_lex_numeral_whole, 
  trivial⟩, k_lex_numeral_radix, trivial⟩⟩⟩, k_lex_numeral_decimal, ⟨⟨⟨⟨trivial, k_lex_regular, trivial⟩, k_lex_quoted_next, ⟨trivial, k_lex_quoted_run, trivial⟩⟩, k_chaseref03_at, ⟨⟨trivial, 
  k_chaseref03_escape, trivial⟩, k_chaseref03_ended, trivial⟩⟩, k_strings_Builder_WriteByte, ⟨⟨⟨trivial, k_strings_Builder_String, trivial⟩, k_lex_right, ⟨trivial, k_strings_HasPrefix, 
  trivial⟩⟩, k_lex_count, ⟨⟨trivial, k_lex_numeral_answer, trivial⟩, k_strings_Cut, trivial⟩⟩⟩⟩, k_strings_ContainsAny, ⟨⟨⟨⟨⟨trivial, k_lex_pattern, trivial⟩, k_real_Parse, ⟨trivial, 
  k_lex_quoted_escape, trivial⟩⟩, k_lex_quoted_line, ⟨⟨trivial, k_chaseref03_octal, trivial⟩, k_strings_Builder_copyCheck, trivial⟩⟩, k_real_Is, ⟨⟨⟨trivial, k_lex_named, trivial⟩, k_lex_digits, 
  ⟨trivial, k_real_scanner_decimal, trivial⟩⟩, k_real_front, ⟨⟨trivial, k_real_fraction, trivial⟩, k_real_double, trivial⟩⟩⟩, k_lex_letters, ⟨⟨⟨⟨trivial, k_lex_digits_1, trivial⟩, k_real_scanner_one, 
  ⟨trivial, k_real_scanner_digits, trivial⟩⟩, k_lex_value, ⟨⟨trivial, k_stringslite_HasPrefix, trivial⟩, k_stringslite_Cut, trivial⟩⟩, k_strings_IndexAny, ⟨⟨⟨trivial, k_strings_IndexRune, 
  trivial⟩, k_strings_shouldUseASCIISet, ⟨trivial, k_strings_makeASCIISet, trivial⟩⟩, k_strings_asciiSet_contains, ⟨⟨trivial, k_unicode_utf8_ValidRune, trivial⟩, k_bytealg_Cutover, trivial⟩⟩⟩⟩⟩
def enT : Nat → Option Entry := fun k => if k = 118 then some B.E_abi_NoEscape else if k = 84 then some B.E_strings_IndexByte else if k = 142 then some B.E_stringslite_Index else none
def tab : Tab := ⟨fnT.get, enT⟩
theorem has_abi_NoEscape : B.H_abi_NoEscape tab := ⟨rfl⟩
theorem has_strings_IndexByte : B.H_strings_IndexByte tab := ⟨rfl⟩
theorem has_stringslite_Index : B.H_stringslite_Index tab := ⟨rfl⟩
theorem has_chaseref03_Quote : B.H_chaseref03_Quote tab := ⟨rfl, rfl⟩
theorem has_lex_quoted_next : B.H_lex_quoted_next tab := ⟨rfl, rfl⟩
theorem has_chaseref03_at : B.H_chaseref03_at tab := ⟨rfl, rfl⟩
theorem has_chaseref03_ended : B.H_chaseref03_ended tab := ⟨rfl, rfl, has_chaseref03_at⟩
theorem has_strings_Builder_String : B.H_strings_Builder_String tab := ⟨rfl, rfl⟩
theorem has_lex_quoted_line : B.H_lex_quoted_line tab := ⟨rfl, rfl⟩
theorem has_chaseref03_octal : B.H_chaseref03_octal tab := ⟨rfl, rfl, has_chaseref03_at⟩
theorem has_strings_Builder_copyCheck : B.H_strings_Builder_copyCheck tab := ⟨rfl, rfl, has_abi_NoEscape⟩
theorem has_lex_numeral_answer : B.H_lex_numeral_answer tab := ⟨rfl, rfl⟩
theorem has_lex_Regular : B.H_lex_Regular tab := ⟨rfl, rfl, has_strings_IndexByte⟩
theorem has_real_Is : B.H_real_Is tab := ⟨rfl, rfl⟩
theorem has_lex_letters : B.H_lex_letters tab := ⟨rfl, rfl⟩
theorem has_stringslite_HasPrefix : B.H_stringslite_HasPrefix tab := ⟨rfl, rfl⟩
theorem has_stringslite_Cut : B.H_stringslite_Cut tab := ⟨rfl, rfl, has_stringslite_Index⟩
theorem has_real_front : B.H_real_front tab := ⟨rfl, rfl⟩
theorem has_real_fraction : B.H_real_fraction tab := ⟨rfl, rfl⟩
theorem has_real_double : B.H_real_double tab := ⟨rfl, rfl⟩
theorem has_strings_shouldUseASCIISet : B.H_strings_shouldUseASCIISet tab := ⟨rfl, rfl⟩
theorem has_strings_makeASCIISet : B.H_strings_makeASCIISet tab := ⟨rfl, rfl⟩
theorem has_strings_asciiSet_contains : B.H_strings_asciiSet_contains tab := ⟨rfl, rfl⟩
theorem has_real_scanner_one : B.H_real_scanner_one tab := ⟨rfl, rfl⟩
theorem has_real_scanner_digits : B.H_real_scanner_digits tab := ⟨rfl, rfl, has_real_scanner_one⟩
theorem has_lex_value : B.H_lex_value tab := ⟨rfl, rfl⟩
theorem has_unicode_utf8_ValidRune : B.H_unicode_utf8_ValidRune tab := ⟨rfl, rfl⟩
theorem has_bytealg_Cutover : B.H_bytealg_Cutover tab := ⟨rfl, rfl⟩
theorem has_chaseref03_escape : B.H_chaseref03_escape tab := ⟨rfl, rfl, has_chaseref03_octal, has_chaseref03_ended⟩
theorem has_strings_Builder_WriteByte : B.H_strings_Builder_WriteByte tab := ⟨rfl, rfl, has_strings_Builder_copyCheck⟩
theorem has_lex_regular : B.H_lex_regular tab := ⟨rfl, rfl, has_lex_Regular⟩
theorem has_lex_quoted_escape : B.H_lex_quoted_escape tab := ⟨rfl, rfl, has_lex_quoted_next, has_lex_letters, has_lex_quoted_line⟩
theorem has_strings_HasPrefix : B.H_strings_HasPrefix tab := ⟨rfl, rfl, has_stringslite_HasPrefix⟩
theorem has_strings_Cut : B.H_strings_Cut tab := ⟨rfl, rfl, has_stringslite_Cut⟩
theorem has_real_scanner_decimal : B.H_real_scanner_decimal tab := ⟨rfl, rfl, has_real_scanner_one, has_real_scanner_digits⟩
theorem has_lex_digits_1 : B.H_lex_digits_1 tab := ⟨rfl, rfl, has_lex_value⟩
theorem has_strings_IndexRune : B.H_strings_IndexRune tab := ⟨rfl, rfl, has_strings_IndexByte, has_unicode_utf8_ValidRune, has_bytealg_Cutover⟩
theorem has_chaseref03_Unquote : B.H_chaseref03_Unquote tab := ⟨rfl, rfl, has_chaseref03_at, has_chaseref03_escape, has_chaseref03_ended⟩
theorem has_lex_Quote : B.H_lex_Quote tab := ⟨rfl, rfl, has_strings_Builder_WriteByte, has_strings_Builder_String⟩
theorem has_lex_quoted_run : B.H_lex_quoted_run tab := ⟨rfl, rfl, has_lex_quoted_next, has_lex_quoted_escape, has_lex_quoted_line⟩
theorem has_real_Parse : B.H_real_Parse tab := ⟨rfl, rfl, has_real_scanner_decimal, has_real_front, has_real_fraction, has_real_double, has_real_Is⟩
theorem has_lex_digits : B.H_lex_digits tab := ⟨rfl, rfl, has_lex_digits_1⟩
theorem has_strings_IndexAny : B.H_strings_IndexAny tab := ⟨rfl, rfl, has_strings_IndexRune, has_strings_shouldUseASCIISet, has_strings_makeASCIISet, has_strings_asciiSet_contains⟩
theorem has_lex_Unquote : B.H_lex_Unquote tab := ⟨rfl, rfl, has_lex_quoted_next, has_lex_quoted_run⟩
theorem has_lex_count : B.H_lex_count tab := ⟨rfl, rfl, has_lex_digits⟩
theorem has_strings_ContainsAny : B.H_strings_ContainsAny tab := ⟨rfl, rfl, has_strings_IndexAny⟩
theorem has_lex_pattern : B.H_lex_pattern tab := ⟨rfl, rfl, has_real_Parse⟩
theorem has_lex_numeral_whole : B.H_lex_numeral_whole tab := ⟨rfl, rfl, has_strings_HasPrefix, has_lex_count, has_lex_numeral_answer⟩
theorem has_lex_numeral_radix : B.H_lex_numeral_radix tab := ⟨rfl, rfl, has_strings_Cut, has_lex_count, has_lex_numeral_answer⟩
theorem has_lex_numeral_decimal : B.H_lex_numeral_decimal tab := ⟨rfl, rfl, has_strings_ContainsAny, has_lex_pattern, has_real_Parse⟩
theorem has_lex_Number : B.H_lex_Number tab := ⟨rfl, rfl, has_lex_numeral_whole, has_lex_numeral_radix, has_lex_numeral_decimal⟩
theorem has_lex_Word : B.H_lex_Word tab := ⟨rfl, rfl, has_lex_regular, has_lex_Number⟩
theorem has_lex_named : B.H_lex_named tab := ⟨rfl, rfl, has_lex_regular, has_lex_Number⟩
theorem has_chaselaw03_number : B.H_chaselaw03_number tab := ⟨rfl, rfl, has_lex_Number⟩
theorem has_lex_right : B.H_lex_right tab := ⟨rfl, rfl, has_real_Is, has_lex_named⟩
theorem has_lex_Check : B.H_lex_Check tab := ⟨rfl, rfl, has_lex_right⟩
theorem has_chaselaw03_works : B.H_chaselaw03_works tab := ⟨rfl, rfl, has_chaselaw03_number, has_lex_Number, has_lex_Word, has_lex_Unquote, has_lex_Quote, has_lex_Check⟩
theorem has_chaselaw03_LexQuotes : B.H_chaselaw03_LexQuotes tab := ⟨rfl, rfl, has_chaselaw03_works, has_lex_Unquote, has_chaseref03_Unquote, has_lex_Quote, has_chaseref03_Quote⟩
theorem tabOK_all (ok118 : EntryOK chkD cx 118 B.E_abi_NoEscape) (ok84 : EntryOK chkD cx 84 B.E_strings_IndexByte) (ok142 : EntryOK chkD cx 142 B.E_stringslite_Index) : TabOK chkD cx tab := tabOK_of fnT_all (fun f F h => by
  simp only [enT] at h
  by_cases e118 : f = 118
  · subst e118; simp only [if_true, Option.some.injEq] at h; subst h; exact ok118
  rw [if_neg e118] at h
  by_cases e84 : f = 84
  · subst e84; simp only [if_true, Option.some.injEq] at h; subst h; exact ok84
  rw [if_neg e84] at h
  by_cases e142 : f = 142
  · subst e142; simp only [if_true, Option.some.injEq] at h; subst h; exact ok142
  rw [if_neg e142] at h
  cases h)
end Go.Ev.LexQuotes

/- DERIVED: THE SHELF's CONTRACTS AT THIS DUMP, IN PLAIN WORDS (tools/lay-plain.mjs out of 'TryShelf.lean', which tools/lay-shelf.mjs wrote): THE SAME DECLARATIONS UNDER THE SAME NAMES: 'import', 'namespace', 'open', 'def', 'theorem' AND NOTHING ELSE: no command of the shelf's: FOR A HAND-IN. Each laying: the table of numbers ('.._ren') and one theorem, a field a fact of the dump's own or the kernel's comparison; each contract: ONE APPLICATION. -/
namespace Go.Proofs
open Go.Shelf
def Try.lays137_ren : Go.Shelf.Ren := ⟨fun | 137 => 30 | 217 => 56 | 266 => 74 | n => n, fun | 9 => 9 | 5 => 5 | 3 => 3 | n => n, fun | n => n⟩
theorem Try.lays137 : Go.Proofs.Lays.n137 Try.prog Try.lays137_ren := {
  mixed := by kernel_rfl
  f137 := Try.func30.trans (congrArg some (by kernel_rfl))
  f217 := Try.func56.trans (congrArg some (by kernel_rfl))
  f266 := Try.func74.trans (congrArg some (by kernel_rfl))
  t3 := Try.underlying3
  a3 := Try.isAgg3
  z3 := Try.sizeOf3
  v3 := Try.zeroValue3
  t5 := Try.underlying5
  a5 := Try.isAgg5
  z5 := Try.sizeOf5
  v5 := Try.zeroValue5
  t9 := Try.underlying9
  a9 := Try.isAgg9
  z9 := Try.sizeOf9
  v9 := Try.zeroValue9 }
open Go.RowKit in
/-- strings.IndexByte: "IndexByte returns the index of the first instance of c in s, or -1 if c is not present in s.": IT RETURNS 'Lib.indexByte s c'; the world is as it was. (LAID: no walk: one application.) -/
theorem Try.strings_IndexByte (s : ByteArray) (c : Int) (w : World) :
    Calls Try.prog 30 #[.string s, .int .u8 c] w fun e w' => e = .returned (.int .i64 (Lib.indexByte s.data.toList c.toNat.toUInt8)) ∧ w' = w := Any.strings_IndexByte Try.lays137 s c w
def Try.lays219_ren : Go.Shelf.Ren := ⟨fun | 219 => 80 | 217 => 56 | 225 => 87 | 224 => 88 | 267 => 89 | 266 => 74 | 314 => 91 | n => n, fun | 9 => 9 | 3 => 3 | 4 => 4 | 5 => 5 | 46 => 73 | 146 => 94 | 51 => 93 | n => n, fun | 1 => 0 | n => n⟩
theorem Try.lays219 : Go.Proofs.Lays.n219 Try.prog Try.lays219_ren := {
  mixed := by kernel_rfl
  f217 := Try.func56.trans (congrArg some (by kernel_rfl))
  f219 := Try.func80.trans (congrArg some (by kernel_rfl))
  f224 := Try.func88.trans (congrArg some (by kernel_rfl))
  f225 := Try.func87.trans (congrArg some (by kernel_rfl))
  f266 := Try.func74.trans (congrArg some (by kernel_rfl))
  f267 := Try.func89.trans (congrArg some (by kernel_rfl))
  f314 := Try.func91.trans (congrArg some (by kernel_rfl))
  t3 := Try.underlying3
  a3 := Try.isAgg3
  z3 := Try.sizeOf3
  v3 := Try.zeroValue3
  t4 := Try.underlying4
  a4 := Try.isAgg4
  z4 := Try.sizeOf4
  v4 := Try.zeroValue4
  t5 := Try.underlying5
  a5 := Try.isAgg5
  z5 := Try.sizeOf5
  v5 := Try.zeroValue5
  t9 := Try.underlying9
  a9 := Try.isAgg9
  z9 := Try.sizeOf9
  v9 := Try.zeroValue9
  t46 := Try.underlying73
  a46 := Try.isAgg73
  z46 := Try.sizeOf73
  v46 := Try.zeroValue73
  t51 := Try.underlying93
  a51 := Try.isAgg93
  z51 := Try.sizeOf93
  v51 := Try.zeroValue93
  t146 := Try.underlying94
  a146 := Try.isAgg94
  z146 := Try.sizeOf94
  v146 := Try.zeroValue94
  g1 := by kernel_rfl }
open Go.RowKit Go.Lib in
/-- internal/stringslite.Index (what strings.Index calls) AT A substr OF ONE BYTE c: IT RETURNS 'Lib.indexByte s c'; the world is as it was. (LAID: no walk: one application.) -/
theorem Try.stringslite_Index_one (s : ByteArray) (c : UInt8) (w : World) :
    Calls Try.prog 80 #[.string s, .string ⟨#[c]⟩] w fun e w' => e = .returned (.int .i64 (Lib.indexByte s.data.toList c)) ∧ w' = w := Any.stringslite_Index_one Try.lays219 s c w
def Try.lays105_ren : Go.Shelf.Ren := ⟨fun | 105 => 18 | 212 => 39 | 99 => 40 | 165 => 41 | 166 => 42 | 170 => 43 | 169 => 38 | 263 => 61 | 264 => 62 | 206 => 63 | 240 => 60 | 241 => 64 | 276 => 76 | 277 => 77 | n => n, fun | 9 => 9 | 3 => 3 | 4 => 4 | 20 => 20 | 0 => 0 | 46 => 73 | 109 => 74 | 5 => 5 | 72 => 68 | 76 => 78 | 51 => 93 | 146 => 94 | 53 => 96 | 148 => 97 | 70 => 66 | 37 => 22 | 75 => 70 | 127 => 92 | 164 => 115 | 80 => 72 | n => n, fun | n => n⟩
theorem Try.lays105 : Go.Proofs.Lays.n105 Try.prog Try.lays105_ren := {
  mixed := by kernel_rfl
  f99 := Try.func40.trans (congrArg some (by kernel_rfl))
  f105 := Try.func18.trans (congrArg some (by kernel_rfl))
  f165 := Try.func41.trans (congrArg some (by kernel_rfl))
  f166 := Try.func42.trans (congrArg some (by kernel_rfl))
  f169 := Try.func38.trans (congrArg some (by kernel_rfl))
  f170 := Try.func43.trans (congrArg some (by kernel_rfl))
  f206 := Try.func63.trans (congrArg some (by kernel_rfl))
  f212 := Try.func39.trans (congrArg some (by kernel_rfl))
  f240 := Try.func60.trans (congrArg some (by kernel_rfl))
  f241 := Try.func64.trans (congrArg some (by kernel_rfl))
  f263 := Try.func61.trans (congrArg some (by kernel_rfl))
  f264 := Try.func62.trans (congrArg some (by kernel_rfl))
  f276 := Try.func76.trans (congrArg some (by kernel_rfl))
  f277 := Try.func77.trans (congrArg some (by kernel_rfl))
  t0 := Try.underlying0
  a0 := Try.isAgg0
  z0 := Try.sizeOf0
  v0 := Try.zeroValue0
  t3 := Try.underlying3
  a3 := Try.isAgg3
  z3 := Try.sizeOf3
  v3 := Try.zeroValue3
  t4 := Try.underlying4
  a4 := Try.isAgg4
  z4 := Try.sizeOf4
  v4 := Try.zeroValue4
  t5 := Try.underlying5
  a5 := Try.isAgg5
  z5 := Try.sizeOf5
  v5 := Try.zeroValue5
  t9 := Try.underlying9
  a9 := Try.isAgg9
  z9 := Try.sizeOf9
  v9 := Try.zeroValue9
  t20 := Try.underlying20
  a20 := Try.isAgg20
  z20 := Try.sizeOf20
  v20 := Try.zeroValue20
  t37 := Try.underlying22
  a37 := Try.isAgg22
  z37 := Try.sizeOf22
  v37 := Try.zeroValue22
  t46 := Try.underlying73
  a46 := Try.isAgg73
  z46 := Try.sizeOf73
  v46 := Try.zeroValue73
  t51 := Try.underlying93
  a51 := Try.isAgg93
  z51 := Try.sizeOf93
  v51 := Try.zeroValue93
  t53 := Try.underlying96
  a53 := Try.isAgg96
  z53 := Try.sizeOf96
  v53 := Try.zeroValue96
  t70 := Try.underlying66
  a70 := Try.isAgg66
  z70 := Try.sizeOf66
  v70 := Try.zeroValue66
  t72 := Try.underlying68
  a72 := Try.isAgg68
  z72 := Try.sizeOf68
  v72 := Try.zeroValue68
  t75 := Try.underlying70
  a75 := Try.isAgg70
  z75 := Try.sizeOf70
  v75 := Try.zeroValue70
  t76 := Try.underlying78
  a76 := Try.isAgg78
  z76 := Try.sizeOf78
  v76 := Try.zeroValue78
  t109 := Try.underlying74
  a109 := Try.isAgg74
  z109 := Try.sizeOf74
  v109 := Try.zeroValue74
  t127 := Try.underlying92
  a127 := Try.isAgg92
  z127 := Try.sizeOf92
  v127 := Try.zeroValue92
  t146 := Try.underlying94
  a146 := Try.isAgg94
  z146 := Try.sizeOf94
  v146 := Try.zeroValue94
  t148 := Try.underlying97
  a148 := Try.isAgg97
  z148 := Try.sizeOf97
  v148 := Try.zeroValue97
  t164 := Try.underlying115
  a164 := Try.isAgg115
  z164 := Try.sizeOf115
  v164 := Try.zeroValue115 }
theorem Try.Builder_Extra_105 : Builder.Extra Try.prog Try.lays105_ren := {
  sizeBuilder := by kernel_rfl
  liesBuilder := by kernel_rfl
  t5 := Try.underlying5
  a5 := Try.isAgg5
  z5 := Try.sizeOf5
  v5 := Try.zeroValue5
  infoByte := by kernel_rfl
  cellsByte := by kernel_rfl
  sizeByte := by kernel_rfl
  neB5 := by decide }
open Go.RowKit Go.Lib in
/-- **strings.Repeat: count ≥ 0, the result within one allocation: count copies of s.** (LAID: no walk: one application.) -/
theorem Try.strings_Repeat (s : ByteArray) (c : Nat) (w : World) (hc : c ≤ 9223372036854775807) (hlen : s.size * c ≤ 140737488355328) :
    Calls Try.prog 18 #[.string s, .int .i64 c] w fun e w' => e = .returned (.string ⟨(Lib.repeatL s.data.toList c).toArray⟩) ∧ Below w.heap.size w w' := Any.strings_Repeat Try.lays105 Try.Builder_Extra_105 s c w hc hlen
end Go.Proofs
