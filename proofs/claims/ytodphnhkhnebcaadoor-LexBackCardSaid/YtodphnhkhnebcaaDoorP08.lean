/- LexKnown told. -/
import Derived.Test.YtodphnhkhnebcaaDoorP07
import Derived.Test.YtodphnhkhnebcaaDoorP04
import Derived.Lib.SmallJoins
import Derived.Deep.Slices
import Derived.OpenShut
namespace Go.Ev
open Go
set_option linter.unusedSimpArgs false
set_option linter.unusedSectionVars false
set_option linter.unusedVariables false

variable {T : Tab} {st : St}

def zeros : List UInt8 := Lib.repeatL [48] 39
theorem kn1 : numT (48 :: (zeros ++ [55])) = (0, 0, 26) := by kernel_rfl
theorem kn2 : numT (48 :: 46 :: (zeros ++ [55])) = (0, 0, 26) := by kernel_rfl
theorem kn3 : numT (48 :: 46 :: 120 :: (zeros ++ [55])) = (0, 0, 5) := by kernel_rfl
theorem kn4 : wordT (Lib.repeatL [120] 100) = (3, 0, Lib.repeatL [120] 100, 0) := by kernel_rfl
theorem kn4l : (Lib.repeatL ([120] : List UInt8) 100).length = 100 := by kernel_rfl
theorem kn5 : wordT (Lib.repeatL [120] 101) = (0, 0, [], 26) := by kernel_rfl
theorem kn6 : unquoteT (40 :: (Lib.repeatL [97] 1000 ++ [41])) = (Lib.repeatL [97] 1000, 1002, 0) := by kernel_rfl
theorem kn6l : (Lib.repeatL ([97] : List UInt8) 1000).length = 1000 := by kernel_rfl
theorem kn7 : unquoteT (40 :: (Lib.repeatL [97] 1001 ++ [41])) = ([], 0, 26) := by kernel_rfl
theorem kn7l : (Lib.repeatL ([97] : List UInt8) 1001).length = 1001 := by kernel_rfl
theorem kn8 : unquoteT [] = ([], 0, 5) := by kernel_rfl
theorem kn9 : unquoteT [40, 97, 92] = ([], 0, 5) := by kernel_rfl
theorem kn10 : numT (zeros ++ [55]) = (1, 7, 0) := by kernel_rfl
theorem kn11 : numT [45, 50, 49, 52, 55, 52, 56, 51, 54, 52, 56] = (1, -2147483648, 0) := by kernel_rfl
theorem kn12 : numT [43, 53] = (1, 5, 0) := by kernel_rfl
theorem kn13 : numT [45, 46, 53, 101, 49] = (2, -327680, 0) := by kernel_rfl
theorem kn14 : numT [51, 54, 35, 122, 105, 107, 48, 122, 106] = (1, 2147483647, 0) := by kernel_rfl
theorem kn20 : unquoteT [40, 97, 13, 98, 13, 10, 99, 10, 100, 41] = ([97, 10, 98, 10, 99, 10, 100], 10, 0) := by kernel_rfl
theorem kn21 : unquoteT [40, 97, 92, 13, 10, 98, 92, 13, 99, 92, 10, 100, 41] = ([97, 98, 99, 100], 13, 0) := by kernel_rfl
theorem kn22 : unquoteT [40, 92, 52, 48, 48, 92, 55, 92, 55, 56, 41] = ([0, 7, 7, 56], 11, 0) := by kernel_rfl
theorem kn23 : unquoteT [40, 92, 114, 92, 116, 92, 98, 92, 102, 92, 41, 92, 40, 92, 92, 92, 113, 41] = ([13, 9, 8, 12, 41, 40, 92, 113], 18, 0) := by kernel_rfl
theorem kn24 : unquoteT [40, 41] = ([], 2, 0) := by kernel_rfl
theorem kt0 : rightT 0 0 [] = false := by kernel_rfl
theorem kt1 : rightT 9 0 [] = false := by kernel_rfl
theorem kt2 : rightT 3 0 [] = false := by kernel_rfl
theorem kt3 : rightT 3 0 [97, 32, 98] = false := by kernel_rfl
theorem kt4 : rightT 1 2147483648 [] = false := by kernel_rfl
theorem kt5 : rightT 2 2147483649 [] = false := by kernel_rfl
theorem kt6 : rightT 7 0 [123] = false := by kernel_rfl
theorem kt7 : rightT 4 0 [91] = false := by kernel_rfl
theorem kt8 : rightT 6 1 [] = false := by kernel_rfl
theorem kt9 : rightT 3 0 [49, 101, 57] = false := by kernel_rfl

theorem zl : zeros.length = 39 := by kernel_rfl

theorem rep_call (H : B.H_strings_Repeat T) {s : List UInt8} {n : Int} (h0 : 0 ≤ n) (h1 : n ≤ 9223372036854775807) (h2 : s.length * n.toNat ≤ 140737488355328) : call T (.fn 13 [] []) [.str s, .int .i64 n] st = some (.str (Lib.repeatL s n.toNat), st) := by
  rw [call_entry H.en]
  simp only [B.E_strings_Repeat, repeatE, List.nil_append, List.append_nil]
  rw [if_pos ⟨h0, h1, h2⟩]

theorem known_round (H : B.H_chaselaw03_LexKnown T) (hwf : st.Wf) {e : Env} {s t : List UInt8} (hs : s.length < 1000000000000) (h : unquoteT s = (t, s.length, 0)) :
    Round T 159 160 161 [B.p 162 (.extr 0 161), B.p 163 (.extr 1 161), B.p 25 (.mov 162), B.p 26 (.mov 163)] [158, 24] B.chaselaw03_LexKnown_l0 e st (.str s) (.str t) := by
  unfold Round
  simp [go_sem, B.chaselaw03_LexKnown_l0]
  refine (unq_call H.lex_Unquote hwf h hs).use fun s1 x1 => ?_
  simp [go_sem, seq8_eq]
  refine ⟨?_, x1.kept hwf⟩
  intro r hr
  simp at hr
  rcases hr with rfl | rfl <;> simp [go_sem]

def badToks : List (Int × Int × List UInt8) := [(0, 0, []), (9, 0, []), (3, 0, []), (3, 0, [97, 32, 98]), (1, 2147483648, []), (2, 2147483649, []), (7, 0, [123]), (4, 0, [91]), (6, 1, []), (3, 0, [49, 101, 57])]
theorem bad_all : ∀ t ∈ badToks, rightT t.1 t.2.1 t.2.2 = false ∧ t.2.2.length < 100 := by
  intro t ht
  have h : badToks.all (fun t => !rightT t.1 t.2.1 t.2.2 && decide (t.2.2.length < 100)) = true := by kernel_rfl
  have := List.all_eq_true.1 h t ht
  simpa using this
def toksC (l : List (Int × Int × List UInt8)) : List AV := l.flatMap fun t => tokC t.1 t.2.1 t.2.2
theorem toksC_at : ∀ {l : List (Int × Int × List UInt8)} {i : Nat} {t : Int × Int × List UInt8}, l[i]? = some t → ((toksC l).drop (3 * i)).take 3 = tokC t.1 t.2.1 t.2.2 ∧ 3 * i + 3 ≤ (toksC l).length
  | [], i, t, h => by cases i <;> cases h
  | a :: l, 0, t, h => by
    simp at h; subst h
    simp [toksC, tokC]
  | a :: l, i + 1, t, h => by
    simp only [List.getElem?_cons_succ] at h
    obtain ⟨h1, h2⟩ := toksC_at h
    have e : toksC (a :: l) = tokC a.1 a.2.1 a.2.2 ++ toksC l := by simp [toksC]
    have e3 : (tokC a.1 a.2.1 a.2.2).length = 3 := rfl
    rw [e]
    refine ⟨?_, by rw [List.length_append, e3]; omega⟩
    rw [show 3 * (i + 1) = (tokC a.1 a.2.1 a.2.2).length + 3 * i by rw [e3]; omega, List.drop_append, List.drop_of_length_le (by omega), List.nil_append]
    rw [show (tokC a.1 a.2.1 a.2.2).length + 3 * i - (tokC a.1 a.2.1 a.2.2).length = 3 * i by omega]
    exact h1

theorem known_loop (H : B.H_chaselaw03_LexKnown T) {st0 : St} {ty n : Nat} {b : Bool} : ∀ (m i : Nat) (e : Env) (st1 : St), i + m = 10 → Ext st0 st1 → hget st1.h n = some (.cells ty false (toksC badToks)) → eget e 24 = .bool b → eget e 193 = .slice n 0 10 (.known 10) → eget e 194 = .int .i64 10 → eget e 195 = .int .i64 i →
    Res (run T (.loop B.chaselaw03_LexKnown_l1) e st1) fun x e' s' => x = .exit 2 ∧ Ext st0 s' ∧ eget e' 24 = .bool b := by
  intro m
  induction m with
  | zero =>
    intro i e st1 hi hx hg g24 g193 g194 g195
    have : i = 10 := by omega
    subst this
    rw [run_loop]
    simp [B.chaselaw03_LexKnown_l1, go_sem, g24, g193, g194, g195, hx]
  | succ m ih =>
    intro i e st1 hi hx hg g24 g193 g194 g195
    have hi10 : (i : Int) < 10 := by omega
    have hi10' : i < 10 := by omega
    have hlen : badToks.length = 10 := rfl
    obtain ⟨t, ht⟩ : ∃ t, badToks[i]? = some t := ⟨badToks[i]'(by omega), List.getElem?_eq_getElem _⟩
    obtain ⟨h1, h2⟩ := toksC_at ht
    obtain ⟨b1, b2⟩ := bad_all t (List.mem_of_getElem? ht)
    have hrd : rdCells st1.h n (i * 3) 3 = some [.int .i64 t.1, .int .i64 t.2.1, .str t.2.2] := by
      rw [rd_part hg (by rw [Nat.mul_comm]; exact h2), Nat.mul_comm, h1]; rfl
    have x1 := hx.trans (Ext.new hx.wf (.cells 134 true [.int .i64 t.1, .int .i64 t.2.1, .str t.2.2]))
    have g1 := (Ext.new hx.wf (.cells 134 true [.int .i64 t.1, .int .i64 t.2.1, .str t.2.2])).get hx.wf hg
    rw [run_loop]
    simp [B.chaselaw03_LexKnown_l1, go_sem, g24, g193, g194, g195, hi10, hi10', RO.run, NO.run, WO.run, hrd, wr_tok, rd_tok]
    refine (chk_call H.lex_Check x1.wf b1 (by omega)).use fun s2 x2' => ?_
    have x2 := x1.trans x2'
    have g2 := x2'.get x1.wf g1
    simp [go_sem]
    refine ih (i + 1) _ s2 (by omega) x2 g2 ?_ ?_ ?_ ?_
    · simp [go_sem]
    · simp [go_sem]
    · simp [go_sem]
    · simp [go_sem]; exact wrap64' (by omega) (by omega)

theorem known_tells (H : B.H_chaselaw03_LexKnown T) (hwf : st.Wf) : Tells T st (.fn 61 [] []) [] (.bool true) := by
  refine tells_of H.e H.f rfl ?_
  simp [B.chaselaw03_LexKnown, go_sem]
  refine (works_tells H.chaselaw03_works hwf).use fun s1 x1 => ?_
  have rp := fun (st : St) (s : List UInt8) (n : Int) h0 h1 h2 => rep_call (st := st) H.strings_Repeat (s := s) (n := n) h0 h1 h2
  simp [go_sem]
  rw [rp _ _ _ (by simp) (by simp) (by simp)]
  have k1 := kn1
  have k2 := kn2
  have k3 := kn3
  have k10 := kn10
  simp [go_sem]
  rw [show Lib.repeatL ([48] : List UInt8) 39 = zeros from rfl]
  have hL : (zeros ++ [55]).length = 40 := by rw [List.length_append, zl]; rfl
  rw [zl]
  generalize zeros ++ [55] = L at k1 k2 k3 k10 hL ⊢
  simp [go_sem, hL]
  refine (num_call H.lex_Number x1.wf k1 (by simp [hL])).use fun s2 x2' => ?_
  have x2 := x1.trans x2'
  simp [go_sem, hL, tokA, tokC, NO.run, WO.run, wr_tok]
  have y2 := x2.trans (Ext.new x2.wf (.cells 134 true [.int .i64 0, .int .i64 0, .str []]))
  refine (num_call H.lex_Number y2.wf k2 (by simp [hL])).use fun s3 x3' => ?_
  have x3 := y2.trans x3'
  simp [go_sem, hL, tokA, tokC, NO.run, WO.run, wr_tok]
  have y3 := x3.trans (Ext.new x3.wf (.cells 134 true [.int .i64 0, .int .i64 0, .str []]))
  refine (num_call H.lex_Number y3.wf k3 (by simp [hL])).use fun s4 x4' => ?_
  have x4 := y3.trans x4'
  simp [go_sem, hL, tokA, tokC, NO.run, WO.run, wr_tok]
  have y4 := x4.trans (Ext.new x4.wf (.cells 134 true [.int .i64 0, .int .i64 0, .str []]))
  rw [rp _ _ _ (by simp) (by simp) (by simp)]
  simp [go_sem]
  refine (word_call H.lex_Word y4.wf kn4 (by rw [kn4l]; simp)).use fun s5 x5' => ?_
  have x5 := y4.trans x5'
  have k4l := kn4l
  generalize Lib.repeatL ([120] : List UInt8) 100 = A at k4l ⊢
  simp [go_sem, tokA, tokC, NO.run, WO.run, wr_tok]
  have z5 := Ext.new x5.wf (.cells 134 true [.int .i64 3, .int .i64 0, .str A])
  have y5 := x5.trans z5
  have g5 : hget ((s5.nx, AObj.cells 134 true [.int .i64 3, .int .i64 0, .str A]) :: s5.h) s5.nx = some (.cells 134 true [.int .i64 3, .int .i64 0, .str A]) := by simp [hget_cons]
  generalize hS : (⟨(s5.nx, AObj.cells 134 true [.int .i64 3, .int .i64 0, .str A]) :: s5.h, s5.nx + 1⟩ : St) = s6 at y5 ⊢
  rw [show (s5.nx, AObj.cells 134 true [.int .i64 3, .int .i64 0, .str A]) :: s5.h = s6.h by rw [← hS]] at g5
  clear hS z5
  generalize s5.nx = n5 at g5 ⊢
  rw [rp _ _ _ (by simp) (by simp) (by simp)]
  simp [go_sem]
  refine (word_call H.lex_Word y5.wf kn5 (by rw [show (Lib.repeatL ([120] : List UInt8) 101).length = 101 by kernel_rfl]; simp)).use fun s7 x7' => ?_
  have x7 := y5.trans x7'
  have g7 := x7'.get y5.wf g5
  simp [go_sem, tokA, tokC, NO.run, WO.run, wr_tok]
  have z7 := Ext.new x7.wf (.cells 134 true [.int .i64 0, .int .i64 0, .str []])
  have y7 := x7.trans z7
  have g8 := z7.get x7.wf g7
  generalize hS : (⟨(s7.nx, AObj.cells 134 true [.int .i64 0, .int .i64 0, .str []]) :: s7.h, s7.nx + 1⟩ : St) = s8 at y7 g8 ⊢
  clear hS z7
  rw [rp _ _ _ (by simp) (by simp) (by simp)]
  have k6 := kn6
  have k6l := kn6l
  have k7 := kn7
  have k7l := kn7l
  simp [go_sem]
  generalize Lib.repeatL ([97] : List UInt8) 1000 = AA at k6 k6l ⊢
  simp [go_sem, k6l]
  refine (unq_call H.lex_Unquote y7.wf k6 (by simp [k6l])).use fun s9 x9' => ?_
  have x9 := y7.trans x9'
  have g9 := x9'.get y7.wf g8
  simp [go_sem]
  rw [rp _ _ _ (by simp) (by simp) (by simp)]
  simp [go_sem]
  generalize Lib.repeatL ([97] : List UInt8) 1001 = AB at k7 k7l ⊢
  simp [go_sem, k7l]
  refine (unq_call H.lex_Unquote x9.wf k7 (by simp [k7l])).use fun s10 x10' => ?_
  have x10 := x9.trans x10'
  have g10 := x10'.get x9.wf g9
  simp [go_sem]
  refine (unq_call H.lex_Unquote x10.wf kn8 (by simp)).use fun s11 x11' => ?_
  have x11 := x10.trans x11'
  have g11 := x11'.get x10.wf g10
  simp [go_sem]
  refine (unq_call H.lex_Unquote x11.wf kn9 (by simp)).use fun s12 x12' => ?_
  have x12 := x11.trans x12'
  have g12 := x12'.get x11.wf g11
  simp [go_sem]
  refine (number73_tells H.chaselaw03_number x12.wf (by simp [hL])).use fun s13 x13' => ?_
  have x13 := x12.trans x13'
  have g13 := x13'.get x12.wf g12
  simp [go_sem, k10, isT]
  refine (number73_tells H.chaselaw03_number x13.wf (by simp)).use fun s14 x14' => ?_
  have x14 := x13.trans x14'
  have g14 := x14'.get x13.wf g13
  simp [go_sem, kn11, isT]
  refine (number73_tells H.chaselaw03_number x14.wf (by simp)).use fun s15 x15' => ?_
  have x15 := x14.trans x15'
  have g15 := x15'.get x14.wf g14
  simp [go_sem, kn12, isT]
  refine (number73_tells H.chaselaw03_number x15.wf (by simp)).use fun s16 x16' => ?_
  have x16 := x15.trans x16'
  have g16 := x16'.get x15.wf g15
  simp [go_sem, kn13, isT]
  refine (number73_tells H.chaselaw03_number x16.wf (by simp)).use fun s17 x17' => ?_
  have x17 := x16.trans x17'
  have g17 := (tok2 (x17'.get x16.wf g16)).2
  simp [go_sem, kn14, isT, RO.run, g17, k4l, k6l]
  refine res_rangeMap ?_
  simp [go_sem, NO.run, WO.run, hget_cons, hset_cons, mins, cellEqK, seq8]
  generalize hm : AObj.map _ = M
  have y18 : Ext st ⟨hdel ((s17.nx, M) :: s17.h) s17.nx, s17.nx + 1 + 1⟩ := by
    have a := x17.trans (Ext.new x17.wf M)
    have b := a.trans (Ext.aside a.wf 1)
    exact b.frm (Frm.hdel b.wf s17.nx) (by simpa using x17.nx)
  clear hm
  generalize hS : (⟨hdel ((s17.nx, M) :: s17.h) s17.nx, s17.nx + 1 + 1⟩ : St) = s18 at y18 ⊢
  rw [show hdel ((s17.nx, M) :: s17.h) s17.nx = s18.h by rw [← hS], show s17.nx + 1 + 1 = s18.nx by rw [← hS]]
  clear hS
  refine ⟨?_, ?_⟩
  · rintro a b (⟨rfl, rfl⟩ | ⟨rfl, rfl⟩ | ⟨rfl, rfl⟩ | ⟨rfl, rfl⟩ | ⟨rfl, rfl⟩)
    · exact known_round H y18.wf (by simp) kn20
    · exact known_round H y18.wf (by simp) kn21
    · exact known_round H y18.wf (by simp) kn22
    · exact known_round H y18.wf (by simp) kn23
    · exact known_round H y18.wf (by simp) kn24
  have x19 := y18.trans (Ext.new y18.wf (.cells 134 false (toksC badToks)))
  have hcs : toksC badToks = [.int .i64 0, .int .i64 0, .str [], .int .i64 9, .int .i64 0, .str [], .int .i64 3, .int .i64 0, .str [], .int .i64 3, .int .i64 0, .str [97, 32, 98], .int .i64 1, .int .i64 2147483648, .str [], .int .i64 2, .int .i64 2147483649, .str [], .int .i64 7, .int .i64 0, .str [123], .int .i64 4, .int .i64 0, .str [91], .int .i64 6, .int .i64 1, .str [], .int .i64 3, .int .i64 0, .str [49, 101, 57]] := rfl
  rw [← hcs]
  refine (known_loop H (b := true) (n := s18.nx) (ty := 134) 10 0 _ _ (by omega) x19 (by simp [hget_cons]) (by simp [go_sem]) (by simp [go_sem]) (by simp [go_sem]) (by simp [go_sem])).mono ?_
  rintro x e s19 ⟨rfl, x20, g24⟩
  simp [go_sem, g24]
  refine (works_tells H.chaselaw03_works x20.wf).use fun s20 x21 => ?_
  simp [go_sem]
  exact x20.trans x21
end Go.Ev

/- LexNests told. -/
namespace Go.Ev
open Go
set_option linter.unusedSimpArgs false
set_option linter.unusedSectionVars false
set_option linter.unusedVariables false

variable {T : Tab} {st : St}

/-- Octets that are only read: a slice of a block, from its beginning. -/
def InL (h : Heap) (v : AV) (l : List UInt8) : Prop := (v = .nilslice ∧ l = []) ∨ ∃ n full, v = .slice n 0 l.length .unk ∧ hget h n = some (.ro (u8s full)) ∧ l = full.take l.length
theorem InL.len {h : Heap} {v : AV} {l : List UInt8} {ev : AO → AV} {x : AO} (a : InL h v l) (hx : ev x = v) : PO.run ev (.lenOf false x) = some (.int .i64 l.length) := by
  rcases a with ⟨rfl, rfl⟩ | ⟨n, full, rfl, _, _⟩ <;> simp [PO.run, hx]
theorem InL.ext {st' : St} {v : AV} {l : List UInt8} (a : InL st.h v l) (x : Ext st st') (hw : st.Wf) : InL st'.h v l := by
  rcases a with h | ⟨n, full, h1, h2, h3⟩
  · exact .inl h
  · exact .inr ⟨n, full, h1, x.get hw h2, h3⟩
theorem InL.take {h : Heap} {v : AV} {l : List UInt8} {ev : AO → AV} {x y : AO} {k : IntKind} (a : InL h v l) (hx : ev x = v) {j : Int} (hy : ev y = .int k j) (h0 : 0 ≤ j) (h1 : j ≤ l.length) : ∃ v', PO.run ev (.subL 1 x none (some y) none) = some v' ∧ InL h v' (l.take j.toNat) := by
  rcases a with ⟨rfl, rfl⟩ | ⟨n, full, rfl, h2, h3⟩
  · refine ⟨.nilslice, ?_, .inl ⟨rfl, by simp⟩⟩
    have : j = 0 := by simp at h1; omega
    subst this
    simp only [PO.run, hx]
    simp [hy, asubL, abounds, bnd, abound, topOf, subCap]
  · have hl : (l.take j.toNat).length = j.toNat := by rw [List.length_take]; omega
    refine ⟨.slice n 0 j.toNat .unk, ?_, .inr ⟨n, full, by rw [hl], h2, ?_⟩⟩
    · simp only [PO.run, hx]
      simp only [hy, asubL, Option.map_some, Option.map_none]
      rw [abounds_hi h0 (show j ≤ (topOf l.length .unk : Nat) from h1)]
      simp [subCap]
    · have hle : l.length ≤ full.length := by
        have := congrArg List.length h3
        rw [List.length_take] at this; omega
      rw [hl]
      conv => lhs; rw [h3]
      rw [List.take_take, Nat.min_eq_left (by omega)]
theorem InL.at {h : Heap} {v : AV} {l : List UInt8} {i : Nat} {c : UInt8} (a : InL h v l) (hc : l[i]? = some c) : ∃ n, v = .slice n 0 l.length .unk ∧ rdCell h n i = some (.int .u8 (c.toNat : Int)) := by
  rcases a with ⟨rfl, rfl⟩ | ⟨n, full, rfl, h2, h3⟩
  · simp at hc
  · refine ⟨n, rfl, ?_⟩
    have : full[i]? = some c := by
      rw [h3, List.getElem?_take] at hc
      split at hc
      · exact hc
      · cases hc
    simp [rdCell, h2, u8s, this]

/-- What LexNests writes, and how many parentheses are left open. -/
def gen : List UInt8 → Nat → List UInt8 × Nat
  | [], o => ([], o)
  | c :: l, o =>
    if c.toNat % 8 = 0 then (40 :: (gen l (o + 1)).1, (gen l (o + 1)).2)
    else if c.toNat % 8 = 1 ∧ 0 < o then (41 :: (gen l (o - 1)).1, (gen l (o - 1)).2)
    else if c = 13 ∨ c = 92 ∨ c = 40 ∨ c = 41 then gen l o
    else (c :: (gen l o).1, (gen l o).2)

theorem nests_loop {st0 : St} {l : List UInt8} {v : AV} (hl : l.length ≤ 300) : ∀ (m i o : Nat) (S : List UInt8) (e : Env) (st1 : St), i + m = l.length → S.length ≤ i → o ≤ i → Ext st0 st1 → InL st1.h v l → eget e 3 = .str S → eget e 4 = .int .i64 o → eget e 16 = v → eget e 17 = .int .i64 l.length → eget e 18 = .int .i64 i →
    Res (run T (.loop B.chaselaw03_LexNests_l0) e st1) fun x e' s' => x = .exit 0 ∧ Ext st0 s' ∧ eget e' 3 = .str (S ++ (gen (l.drop i) o).1) ∧ eget e' 4 = .int .i64 ((gen (l.drop i) o).2 : Nat) ∧ (gen (l.drop i) o).2 ≤ 300 ∧ S.length + (gen (l.drop i) o).1.length ≤ 300 := by
  intro m
  induction m with
  | zero =>
    intro i o S e st1 hi hS ho hx hv g3 g4 g16 g17 g18
    have : i = l.length := by omega
    subst this
    rw [run_loop]
    simp [B.chaselaw03_LexNests_l0, go_sem, g3, g4, g16, g17, g18, gen, hx]
    omega
  | succ m ih =>
    intro i o S e st1 hi hS ho hx hv g3 g4 g16 g17 g18
    have hil : (i : Int) < l.length := by omega
    obtain ⟨c, hc, hd⟩ := idx_some (s := l) (i := i) (by omega)
    obtain ⟨n, hvn, hr⟩ := hv.at hc
    have e18 : IntKind.i64.wrap ((i : Int) + 1) = ((i + 1 : Nat) : Int) := wrap64' (by omega) (by omega)
    rw [run_loop]
    have hm : (c.toNat : Int).tmod 8 = ((c.toNat % 8 : Nat) : Int) := by rw [Int.tmod_eq_emod_of_nonneg (by omega)]; omega
    have hS' : S.length + 1 < 4611686018427387904 := by omega
    have step : ∀ (o' : Nat) (add : List UInt8) (e' : Env) (st2 : St), gen (l.drop i) o = (add ++ (gen (l.drop (i + 1)) o').1, (gen (l.drop (i + 1)) o').2) → add.length ≤ 1 → o' ≤ i + 1 → Ext st1 st2 → eget e' 3 = .str (S ++ add) → eget e' 4 = .int .i64 o' → eget e' 16 = v → eget e' 17 = .int .i64 l.length → eget e' 18 = .int .i64 ((i + 1 : Nat) : Int) →
        Res (run T (.loop B.chaselaw03_LexNests_l0) e' st2) fun x e' s' => x = .exit 0 ∧ Ext st0 s' ∧ eget e' 3 = .str (S ++ (gen (l.drop i) o).1) ∧ eget e' 4 = .int .i64 ((gen (l.drop i) o).2 : Nat) ∧ (gen (l.drop i) o).2 ≤ 300 ∧ S.length + (gen (l.drop i) o).1.length ≤ 300 := by
      intro o' add e' st2 hg ha ho' h2 k3 k4 k16 k17 k18
      rw [hg]
      have := ih (i + 1) o' (S ++ add) e' st2 (by omega) (by rw [List.length_append]; omega) ho' (hx.trans h2) (hv.ext h2 hx.wf) k3 k4 k16 k17 k18
      refine this.mono fun x e s ⟨a1, a2, a3, a4, a5, a6⟩ => ⟨a1, a2, by rw [a3, List.append_assoc], a4, a5, ?_⟩
      rw [List.length_append] at a6 ⊢; omega
    have hg := congrArg (fun r => gen r o) hd
    simp only [gen] at hg
    generalize gen (l.drop i) o = G at step hg ⊢
    generalize c.toNat % 8 = c8 at hm hg
    subst hvn
    by_cases c0 : c8 = 0
    · subst c0
      have e4 : IntKind.i64.wrap ((o : Int) + 1) = ((o + 1 : Nat) : Int) := wrap64' (by omega) (by omega)
      simp [B.chaselaw03_LexNests_l0, go_sem, g3, g4, g16, g17, g18, hil, RO.run, hr, hm, hS']
      exact step (o + 1) [40] _ _ (by simpa using hg) (by simp) (by omega) (.refl hx.wf) (by simp [go_sem]) (by simp [go_sem, e4]) (by simp [go_sem]) (by simp [go_sem]) (by simp [go_sem, e18])
    · have c0' : ¬ (c8 : Int) = 0 := by omega
      by_cases c1 : c8 = 1 ∧ 0 < o
      · obtain ⟨rfl, ho0⟩ := c1
        have e4 : IntKind.i64.wrap ((o : Int) - 1) = ((o - 1 : Nat) : Int) := by rw [wrap64' (by omega) (by omega)]; omega
        simp [B.chaselaw03_LexNests_l0, go_sem, g3, g4, g16, g17, g18, hil, RO.run, hr, hm, hS', ho0, show (0 : Int) < o by omega]
        exact step (o - 1) [41] _ _ (by simpa [ho0] using hg) (by simp) (by omega) (.refl hx.wf) (by simp [go_sem]) (by simp [go_sem, e4]) (by simp [go_sem]) (by simp [go_sem]) (by simp [go_sem, e18])
      · have hg' : G = if c = 13 ∨ c = 92 ∨ c = 40 ∨ c = 41 then gen (l.drop (i + 1)) o else (c :: (gen (l.drop (i + 1)) o).1, (gen (l.drop (i + 1)) o).2) := by simpa [c0, c1] using hg
        have hor : ∀ {P : Prop}, (c = 13 ∨ c = 92 ∨ c = 40 ∨ c = 41 → P) → (c ≠ 13 → c ≠ 92 → c ≠ 40 → c ≠ 41 → P) → P := fun f g => by
          by_cases h : c = 13 ∨ c = 92 ∨ c = 40 ∨ c = 41
          · exact f h
          · simp only [not_or] at h; exact g h.1 h.2.1 h.2.2.1 h.2.2.2
        have h30 : ((c8 : Int) = 1 ∧ (0 : Int) < o) ↔ False := by simp; omega
        refine hor (fun hb => ?_) (fun b1 b2 b3 b4 => ?_)
        · have hg2 : G = ([] ++ (gen (l.drop (i + 1)) o).1, (gen (l.drop (i + 1)) o).2) := by rw [hg', if_pos hb]; rfl
          have hcn : (c.toNat : Int) = 13 ∨ (c.toNat : Int) = 92 ∨ (c.toNat : Int) = 40 ∨ (c.toNat : Int) = 41 := by rcases hb with rfl | rfl | rfl | rfl <;> simp
          obtain ⟨nn, hn⟩ : ∃ nn : Int, nn = c.toNat := ⟨_, rfl⟩
          rw [← hn] at hcn hm hr
          by_cases c2 : c8 = 1
          · subst c2
            have ho0 : ¬ (0 : Int) < o := by omega
            have ho0' : ¬ 0 < o := by omega
            rcases hcn with rfl | rfl | rfl | rfl
            all_goals
              simp [B.chaselaw03_LexNests_l0, go_sem, g3, g4, g16, g17, g18, hil, RO.run, hr, hm, hS', ho0, ho0']
              exact step o [] _ _ hg2 (by simp) (by omega) (.refl hx.wf) (by simp [go_sem]) (by simp [go_sem]) (by simp [go_sem]) (by simp [go_sem]) (by simp [go_sem, e18])
          · have c2' : ¬ (c8 : Int) = 1 := by omega
            rcases hcn with rfl | rfl | rfl | rfl
            all_goals
              simp [B.chaselaw03_LexNests_l0, go_sem, g3, g4, g16, g17, g18, hil, RO.run, hr, hm, hS', c0, c0', c2, c2']
              exact step o [] _ _ hg2 (by simp) (by omega) (.refl hx.wf) (by simp [go_sem]) (by simp [go_sem]) (by simp [go_sem]) (by simp [go_sem]) (by simp [go_sem, e18])
        · have hg2 : G = ([c] ++ (gen (l.drop (i + 1)) o).1, (gen (l.drop (i + 1)) o).2) := by rw [hg', if_neg (by simp [b1, b2, b3, b4])]; rfl
          have n1 : ¬ (c.toNat : Int) = 13 := u8_ne b1 rfl
          have n2 : ¬ (c.toNat : Int) = 92 := u8_ne b2 rfl
          have n3 : ¬ (c.toNat : Int) = 40 := u8_ne b3 rfl
          have n4 : ¬ (c.toNat : Int) = 41 := u8_ne b4 rfl
          have m1 : ¬ c.toNat = 13 := by omega
          have m2 : ¬ c.toNat = 92 := by omega
          have m3 : ¬ c.toNat = 40 := by omega
          have m4 : ¬ c.toNat = 41 := by omega
          have xn := Ext.new hx.wf (.cells 5 false [.int .u8 (c.toNat : Int)])
          have hrd : rdCells ((st1.nx, AObj.cells 5 false [.int .u8 (c.toNat : Int)]) :: st1.h) st1.nx 0 1 = some [.int .u8 (c.toNat : Int)] := rd_all (ty := 5) (l := false) (by simp [hget_cons]) rfl
          have htb : toBytes [.int .u8 (c.toNat : Int)] = some [c] := toBytes_u8s [c]
          by_cases c2 : c8 = 1
          · subst c2
            have ho0 : ¬ (0 : Int) < o := by omega
            have ho0' : ¬ 0 < o := by omega
            simp [B.chaselaw03_LexNests_l0, go_sem, g3, g4, g16, g17, g18, hil, RO.run, NO.run, hr, hm, hS', ho0, ho0', n1, n2, n3, n4, m1, m2, m3, m4, hrd, htb, reps]
            exact step o [c] _ _ hg2 (by simp) (by omega) xn (by simp [go_sem]) (by simp [go_sem]) (by simp [go_sem]) (by simp [go_sem]) (by simp [go_sem, e18])
          · have c2' : ¬ (c8 : Int) = 1 := by omega
            simp [B.chaselaw03_LexNests_l0, go_sem, g3, g4, g16, g17, g18, hil, RO.run, NO.run, hr, hm, hS', c0, c0', c2, c2', n1, n2, n3, n4, m1, m2, m3, m4, hrd, htb, reps]
            exact step o [c] _ _ hg2 (by simp) (by omega) xn (by simp [go_sem]) (by simp [go_sem]) (by simp [go_sem]) (by simp [go_sem]) (by simp [go_sem, e18])

/-- What is written is read back. -/
theorem unq_gen : ∀ (l : List UInt8) (o f : Nat) (rest out : List UInt8), unq (f + (gen l o).1.length) (o + 1) ((gen l o).1 ++ rest) out = unq f ((gen l o).2 + 1) rest (out ++ (gen l o).1)
  | [], o, f, rest, out => by simp [gen]
  | c :: l, o, f, rest, out => by
    simp only [gen]
    split
    · have := unq_gen l (o + 1) f rest (out ++ [40])
      simp only [List.length_cons, List.cons_append]
      rw [← Nat.add_assoc, unq, if_neg (by decide), if_pos rfl, this]
      simp
    · split
      · rename_i h
        obtain ⟨o', rfl⟩ : ∃ o', o = o' + 1 := ⟨o - 1, by omega⟩
        have := unq_gen l o' f rest (out ++ [41])
        simp only [List.length_cons, List.cons_append, Nat.add_sub_cancel]
        rw [← Nat.add_assoc, unq, if_neg (by decide), if_neg (by decide), if_pos rfl, if_neg (by omega), show o' + 1 + 1 - 1 = o' + 1 by omega, this]
        simp
      · split
        · exact unq_gen l o f rest out
        · rename_i h
          simp only [not_or] at h
          have := unq_gen l o f rest (out ++ [c])
          simp only [List.length_cons, List.cons_append]
          rw [← Nat.add_assoc, unq, if_neg h.2.1, if_neg h.2.2.1, if_neg h.2.2.2]
          by_cases h10 : c = 10
          · subst h10
            rw [if_pos (.inl rfl)]
            simp only [lineN]
            rw [if_neg (by simp), List.drop_zero, this]
            simp
          · rw [if_neg (by simp [h10, h.1]), this]
            simp

theorem unq_close : ∀ (o f : Nat) (rest out : List UInt8), unq (f + o) (o + 1) (List.replicate o 41 ++ rest) out = unq f 1 rest (out ++ List.replicate o 41)
  | 0, f, rest, out => by simp
  | o + 1, f, rest, out => by
    have := unq_close o f rest (out ++ [41])
    rw [List.replicate_succ, List.cons_append, ← Nat.add_assoc, unq, if_neg (by decide), if_neg (by decide), if_pos rfl, if_neg (by omega), show o + 1 + 1 - 1 = o + 1 by omega, this]
    simp

theorem repeatL_c (c : UInt8) : ∀ n : Nat, Lib.repeatL [c] n = List.replicate n c
  | 0 => rfl
  | n + 1 => by rw [Lib.repeatL, repeatL_c c n, List.replicate_succ]; rfl

theorem nest_back (l : List UInt8) (h : ((gen l 0).1 ++ List.replicate (gen l 0).2 41).length ≤ 1000) :
    unquoteT (40 :: ((gen l 0).1 ++ List.replicate (gen l 0).2 41 ++ [41])) = ((gen l 0).1 ++ List.replicate (gen l 0).2 41, ((gen l 0).1 ++ List.replicate (gen l 0).2 41).length + 2, 0) := by
  have e : unq (40 :: ((gen l 0).1 ++ List.replicate (gen l 0).2 41 ++ [41])).length 1 ((gen l 0).1 ++ List.replicate (gen l 0).2 41 ++ [41]) [] = some ((gen l 0).1 ++ List.replicate (gen l 0).2 41, []) := by
    have h1 := unq_gen l 0 (2 + (gen l 0).2) (List.replicate (gen l 0).2 41 ++ [41]) []
    have h2 := unq_close (gen l 0).2 2 [41] (gen l 0).1
    have h3 : unq 2 1 [41] ((gen l 0).1 ++ List.replicate (gen l 0).2 41) = some ((gen l 0).1 ++ List.replicate (gen l 0).2 41, []) := by simp [unq]
    rw [List.nil_append, h2, h3] at h1
    rw [← h1, List.append_assoc]
    congr 1
    simp
    omega
  rw [unquoteT, if_pos rfl, e]
  simp only
  rw [if_neg (by omega)]
  simp
  omega

theorem nests_tells (H : B.H_chaselaw03_LexNests T) (hwf : st.Wf) {v : AV} {l : List UInt8} (hv : InL st.h v l) (hl : l.length < 9223372036854775808) : Tells T st (.fn 60 [] []) [v] (.bool true) := by
  refine tells_of H.e H.f rfl ?_
  simp [B.chaselaw03_LexNests, go_sem]
  refine (works_tells H.chaselaw03_works hwf).use fun s1 x1 => ?_
  rcases hv with ⟨rfl, rfl⟩ | ⟨n, full, rfl, h2, h3⟩
  · simp [go_sem, asubL, abounds, bnd, abound, topOf, subCap]
    refine (nests_loop (st0 := st) (l := []) (v := .nilslice) (by simp) 0 0 0 [] _ s1 (by simp) (by simp) (by simp) x1 (.inl ⟨rfl, rfl⟩) (by simp [go_sem]) (by simp [go_sem]) (by simp [go_sem]) (by simp [go_sem]) (by simp [go_sem])).mono ?_
    rintro x e s2 ⟨rfl, x2, g3, g4, g5, g6⟩
    rw [List.drop_zero] at g3 g4 g5 g6
    rw [List.nil_append] at g3
    have hnb := nest_back [] (by simp; omega)
    generalize gen [] 0 = G at g3 g4 g5 g6 hnb
    have hcall : call T (.fn 13 [] []) [.str [41], .int .i64 (G.2 : Int)] s2 = some (.str (List.replicate G.2 41), s2) := by
      rw [rep_call H.strings_Repeat (by omega) (by omega) (by simp; omega), Int.toNat_natCast, repeatL_c]
    simp [go_sem, g3, g4, hcall]
    rw [if_pos (by omega)]
    simp [go_sem]
    rw [if_pos (by omega)]
    simp [go_sem]
    rw [if_pos (by omega)]
    simp [go_sem]
    have hl1 : (40 :: (G.1 ++ List.replicate G.2 41 ++ [41])).length < 1000000000000 := by simp; omega
    simp only [List.append_assoc] at hnb hl1
    refine (unq_call H.lex_Unquote x2.wf hnb hl1).use fun s3 x3 => ?_
    simp [go_sem, seq8_eq]
    refine ⟨?_, x2.trans x3⟩
    simp only [List.length_nil] at g6
    rw [wrap64' (by omega) (by omega)]
  · obtain ⟨k, hk⟩ : ∃ k, k = min l.length 300 := ⟨_, rfl⟩
    have hmin : (if (300 : Int) < (l.length : Int) then 300 else (l.length : Int)) = (k : Int) := by rw [hk]; split <;> omega
    have hle : l.length ≤ full.length := by
      have := congrArg List.length h3
      rw [List.length_take] at this; omega
    have hk2 : (l.take k).length = k := by rw [List.length_take]; omega
    have hv2 : InL s1.h (.slice n 0 k .unk) (l.take k) := .inr ⟨n, full, by rw [hk2], x1.get hwf h2, by rw [hk2]; conv => lhs; rw [h3]; rw [List.take_take, Nat.min_eq_left (by omega)]⟩
    have hsub : asubL 1 n 0 l.length .unk none (some (.int .i64 (k : Int))) none = some (.slice n 0 k .unk) := by
      simp only [asubL]
      rw [abounds_hi (by omega) (show (k : Int) ≤ (topOf l.length .unk : Nat) by show (k : Int) ≤ (l.length : Nat); omega)]
      simp [subCap]
    simp [go_sem, hmin, hsub]
    refine (nests_loop (st0 := st) (l := l.take k) (v := .slice n 0 k .unk) (by omega) k 0 0 [] _ s1 (by omega) (by simp) (by simp) x1 hv2 (by simp [go_sem]) (by simp [go_sem]) (by simp [go_sem]) (by simp [go_sem, hk2]) (by simp [go_sem])).mono ?_
    rintro x e s2 ⟨rfl, x2, g3, g4, g5, g6⟩
    rw [List.drop_zero] at g3 g4 g5 g6
    rw [List.nil_append] at g3
    have hnb := nest_back (l.take k) (by simp; omega)
    generalize gen (l.take k) 0 = G at g3 g4 g5 g6 hnb
    have hcall : call T (.fn 13 [] []) [.str [41], .int .i64 (G.2 : Int)] s2 = some (.str (List.replicate G.2 41), s2) := by
      rw [rep_call H.strings_Repeat (by omega) (by omega) (by simp; omega), Int.toNat_natCast, repeatL_c]
    simp [go_sem, g3, g4, hcall]
    rw [if_pos (by omega)]
    simp [go_sem]
    rw [if_pos (by omega)]
    simp [go_sem]
    rw [if_pos (by omega)]
    simp [go_sem]
    have hl1 : (40 :: (G.1 ++ List.replicate G.2 41 ++ [41])).length < 1000000000000 := by simp; omega
    simp only [List.append_assoc] at hnb hl1
    refine (unq_call H.lex_Unquote x2.wf hnb hl1).use fun s3 x3 => ?_
    simp [go_sem, seq8_eq]
    refine ⟨?_, x2.trans x3⟩
    simp only [List.length_nil] at g6
    rw [wrap64' (by omega) (by omega)]
end Go.Ev

/- Octets among the arguments: what they are, and the names of their blocks. -/
namespace Go.Ev
open Go Go.RowKit Go.ChangeShapes Go.WideShapes Go.Deep Go.Joins
set_option linter.unusedVariables false
set_option linter.unusedSimpArgs false

/-- One block that is only read. -/
def nuOne (a : Addr) : Nu := ⟨fun n => if n = 2 then some a else none, fun _ => 0⟩
def stOne (cs : List AV) : St := ⟨[(2, .ro cs)], 3⟩

theorem stOne_wf (cs : List AV) : (stOne cs).Wf := ⟨(fun n o h => by
  simp only [stOne, hget] at h ⊢
  split at h
  · rename_i e; omega
  · cases h), (by simp [stOne])⟩
theorem stNone_wf (n : Nat) : St.Wf ⟨[], n⟩ := ⟨(fun n o h => by cases h), (by simp)⟩

theorem sr_one {X : Cx} {w : World} {a : Addr} {cs : List AV} {us : Array Value} {t : TypeId} {fz : Nat × Nat} (hb : w.heap[a.block]? = some (.cells us t fz))
    (hc : ∀ (i : Nat) (x : AV), cs[i]? = some x → ∃ u, w.cell? ⟨a.block, a.off + i, none⟩ = some u ∧ VR X (nuOne a) x u) : SR chkD X (nuOne a) (stOne cs) w := by
  refine ⟨⟨?_, ?_⟩, ?_⟩
  · intro n o h
    simp only [stOne, hget] at h
    split at h
    · rename_i e
      subst e
      injection h with h
      subst h
      exact ⟨a, by simp [nuOne], ⟨us, t, fz, hb⟩, hc⟩
    · cases h
  · intro n m o p x y h1 h2 h3
    simp only [stOne, hget] at h1
    split at h1
    · injection h1 with h1; subst h1; cases h3
    · cases h1
  · intro n hn
    simp only [stOne] at hn
    simp only [nuOne]
    rw [if_neg (by omega)]
theorem own_one {a : Addr} {cs : List AV} (b : Nat) : ¬ Own (nuOne a) (stOne cs).h b := fun ⟨n, o, x, h1, h2, _⟩ => by
  simp only [stOne, hget] at h1
  split at h1
  · injection h1 with h1; subst h1; cases h2
  · cases h1

theorem wf_u8 {n : Int} (h : (Lit.int .u8 n).wf = true) : 0 ≤ n ∧ n < 256 := by
  simp [Lit.wf, IntKind.min, IntKind.max, IntKind.signed, IntKind.bits] at h
  omega


section
variable {H : Type} {enc : TypeId × Value → H} {P : Program} {w : World} {base : Nat} {spare : Nat → Bool} {held : Bool}

/-- An octet among the arguments. -/
theorem octet_open {t : TypeId} (ht : P.underlying t = some (.int .u8)) (hc : P.cellsOf t = 1) {fuel : Nat} {cs : List Value} {x : DataW H × List MemPlace} (h : DataW.trod enc P w base spare held fuel t cs = some x) :
    ∃ n : Nat, n < 256 ∧ cs = [.int .u8 (n : Int)] := by
  obtain ⟨n, h2, _, h3⟩ := DataW.trod_int ht h
  have h4 := wf_u8 h3
  obtain ⟨k, rfl⟩ := Int.eq_ofNat_of_zero_le h4.1
  exact ⟨k, by omega, h2⟩

/-- A slice of octets among the arguments. -/
theorem octets_open {X : Cx} {r : Reach} {b0 : Nat} {tb tsl : TypeId} {v : Value} {d : DataW H} {p : List MemPlace} (hP : X.P = P) (hb : P.underlying tb = some (.int .u8)) (hbc : P.cellsOf tb = 1) (hsl : P.underlying tsl = some (.slice tb))
    (hv : Value.okWide P w r b0 tsl v) (h : DataW.Trod enc P w base spare held tsl v d p) :
    ∃ (N : Nu) (st : St) (sv : AV) (l : List UInt8), SR chkD X N st w ∧ st.Wf ∧ (∀ b, ¬ Own N st.h b) ∧ InL st.h sv l ∧ l.length < 9223372036854775808 ∧ VR X N sv v := by
  obtain ⟨a0, len0, cap0, rfl⟩ := okWide_slice hsl hv
  obtain ⟨fuel, hf⟩ := h
  rcases open_slice hsl hf with ⟨hcs, _⟩ | ⟨a, len, cap, m, n2, D, Pl, hcs, hba, hl, hm, hmm, _, hel⟩
  · simp [Value.cells] at hcs
    obtain ⟨rfl, rfl, rfl⟩ := hcs
    exact ⟨Nu.none, ⟨[], 3⟩, .nilslice, [], sr_none 3 w, stNone_wf 3, own_none, .inl ⟨rfl, rfl⟩, by decide, rfl⟩
  · simp [Value.cells] at hcs
    obtain ⟨rfl, rfl, rfl⟩ := hcs
    have hcell : Cell.okWide P w r b0 tsl (.slice (some a) len0 cap0) := by
      simpa only [Value.okWide, hsl] using hv
    have hhas : a.spot = none ∧ ∃ us tt fz, w.heap[a.block]? = some (.cells us tt fz) := by
      simp only [Cell.okWide, hsl, Cell.ok, World.has] at hcell
      obtain ⟨_, _, _, h3, row, cells, h4, _⟩ := hcell
      refine ⟨h3, ?_⟩
      unfold World.shape? at h4
      split at h4
      · exact ⟨_, _, _, by assumption⟩
      · cases h4
    obtain ⟨hsp, us, tt, fz, hheap⟩ := hhas
    obtain ⟨blk, off, spot⟩ := a
    simp only at hsp
    subst hsp
    have hmlen : len0 ≤ m := by rw [hmm]; split <;> omega
    have hoct : ∀ j, j < len0 → ∃ x : Nat, x < 256 ∧ w.cell? ⟨blk, off + j, none⟩ = some (.int .u8 (x : Int)) := by
      intro j hj
      obtain ⟨cs', h3, h4⟩ := hel j (by omega)
      rw [hbc] at h3
      obtain ⟨x, h7, h8⟩ := octet_open hb hbc h4
      obtain ⟨_, _, h9⟩ := World.cells?_some h3
      have h10 := h9 0 (by omega)
      rw [h8] at h10
      refine ⟨x, h7, ?_⟩
      simp only [List.getElem?_cons_zero, Nat.mul_one] at h10
      rw [Deep.add_add] at h10
      rw [Nat.add_zero] at h10
      unfold Addr.add at h10
      split at h10
      · rename_i hj0; rw [hj0]; exact h10
      · exact h10
    obtain ⟨f, hff⟩ := Deep.choose_lt (α := Nat) (p := fun j x => x < 256 ∧ w.cell? ⟨blk, off + j, none⟩ = some (.int .u8 (x : Int))) hoct
    let l : List UInt8 := (List.range len0).map fun j => UInt8.ofNat (f j)
    have hll : l.length = len0 := by simp [l]
    have hxs : (u8s l).length = len0 := by simp [u8s, l]
    refine ⟨nuOne ⟨blk, off, none⟩, stOne (u8s l), .slice 2 0 len0 .unk, l, ?_, stOne_wf _, own_one, .inr ⟨2, l, by rw [hll], by simp [stOne, hget], by rw [List.take_of_length_le (Nat.le_refl _)]⟩, ?_, ?_⟩
    · refine sr_one hheap (fun i x hx => ?_)
      have hi : i < len0 := by rw [← hxs]; exact (List.getElem?_eq_some_iff.1 hx).1
      have hf := hff i hi
      have hx' : x = .int .u8 ((f i : Nat) : Int) := by
        simp [u8s, l, hi] at hx
        rw [← hx]
        have : f i % 256 = f i := Nat.mod_eq_of_lt hf.1
        congr 1
        omega
      subst hx'
      exact ⟨_, hf.2, rfl⟩
    · have : maxLen ≤ 9223372036854775807 := by decide
      omega
    · exact ⟨⟨blk, off, none⟩, cap0, rfl, rfl, hl, trivial⟩
end
end Go.Ev

/- The reference's Unquote: its parts. -/
namespace Go.Ev
open Go
set_option linter.unusedSimpArgs false
set_option linter.unusedSectionVars false
set_option linter.unusedVariables false

variable {T : Tab} {st : St}

/-- More octets appended. -/
theorem Grow.app {st0 s1 : St} (hF : st0.nx ≤ s1.nx) (hw : s1.Wf) {v x : AV} {l m : List UInt8} (a : Grow st0 s1 v l) (hx : Rd s1.h x 1 m.length (u8s m)) (hl : l.length + m.length < 35184372088831) :
    CRes (aappend 5 1 1 s1 v x) fun v' s => Grow st0 s v' (l ++ m) ∧ Frm v.nms s1 s := by
  obtain ⟨a1, a2, a3⟩ := a
  have hap := Sl.append (x := x) (j := m.length) (new := u8s m) (b := 1) (Frm.refl hw v.nms) (fun n h => .inl h) a1 hx (by simp [u8s, AV.sc]) (by omega) (by omega) (.inr fun n c h => a3 _ _ _ _ h)
  refine (hap.also (fun _ _ h => aappend_nk h a3)).mono ?_
  rintro v2 s2 ⟨⟨k1, k2, k3, _⟩, hnk2⟩
  refine ⟨⟨by rw [u8s_append, List.length_append]; exact k1, fun n hn => ?_, hnk2⟩, k2⟩
  rcases k3 n hn with h | h
  · exact a2 n h
  · exact .inr (Nat.le_trans hF h)

def atS : List UInt8 → Nat
  | [] => 0
  | c :: _ => c.toNat

theorem at_tells (H : B.H_chaseref03_at T) (hwf : st.Wf) {s : List UInt8} {i : Nat} (hs : s.length < 1000000000000) : Tells T st (.fn 88 [] []) [.str s, .int .i64 (i : Int)] (.int .u8 (atS (s.drop i) : Nat)) := by
  refine tells_of H.e H.f rfl ?_
  by_cases h : i < s.length
  · obtain ⟨c, hc, hd⟩ := idx_some h
    simp [B.chaseref03_at, go_sem, show (i : Int) < s.length by omega, hc, hd, atS, Ext.refl hwf]
  · have hd : s.drop i = [] := List.drop_eq_nil_iff.2 (by omega)
    simp [B.chaseref03_at, go_sem, show ¬ (i : Int) < s.length by omega, h, hd, atS, Ext.refl hwf]

/-- How long the line's end is that lies ahead. -/
def endS (r : List UInt8) : Nat := if atS r = 13 ∧ atS r.tail = 10 then 2 else if atS r = 13 ∨ atS r = 10 then 1 else 0

theorem ended_tells (H : B.H_chaseref03_ended T) (hwf : st.Wf) {s : List UInt8} {i : Nat} (hi : i ≤ 1000000000000) (hs : s.length < 1000000000000) : Tells T st (.fn 90 [] []) [.str s, .int .i64 (i : Int)] (.int .i64 (endS (s.drop i) : Nat)) := by
  refine tells_of H.e H.f rfl ?_
  have e4 : IntKind.i64.wrap ((i : Int) + 1) = ((i + 1 : Nat) : Int) := wrap64' (by omega) (by omega)
  have hat1 := fun (st' : St) (hw : st'.Wf) => at_tells (st := st') H.chaseref03_at hw (s := s) (i := i) hs
  have hat2 := fun (st' : St) (hw : st'.Wf) => at_tells (st := st') H.chaseref03_at hw (s := s) (i := i + 1) hs
  have ht : (s.drop i).tail = s.drop (i + 1) := by simp
  unfold endS
  rw [ht]
  generalize atS (s.drop i) = a at hat1 ⊢
  generalize atS (s.drop (i + 1)) = b at hat2 ⊢
  simp [B.chaseref03_ended, go_sem]
  refine (hat1 _ hwf).use fun s1 x1 => ?_
  by_cases ha : a = 13
  · subst ha
    simp [go_sem, e4]
    refine (hat2 _ x1.wf).use fun s2 x2' => ?_
    have x2 := x1.trans x2'
    by_cases hb : b = 10
    · subst hb; simp [go_sem, x2]
    · have hb' : ¬ (b : Int) = 10 := by omega
      simp [go_sem, hb, hb']
      refine (hat1 _ x2.wf).use fun s3 x3' => ?_
      have x3 := x2.trans x3'
      simp [go_sem, x3]
  · have ha' : ¬ (a : Int) = 13 := by omega
    simp [go_sem, ha, ha']
    refine (hat1 _ x1.wf).use fun s2 x2' => ?_
    have x2 := x1.trans x2'
    simp [go_sem, ha, ha']
    refine (hat1 _ x2.wf).use fun s3 x3' => ?_
    have x3 := x2.trans x3'
    by_cases hb : a = 10
    · subst hb; simp [go_sem, x3]
    · have hb' : ¬ (a : Int) = 10 := by omega
      simp [go_sem, hb, hb', x3]

/-- How many octal digits lie ahead, at most k. -/
def octS : Nat → List UInt8 → Nat
  | 0, _ => 0
  | _ + 1, [] => 0
  | k + 1, c :: r => if 48 ≤ c.toNat ∧ c.toNat ≤ 55 then octS k r + 1 else 0

theorem octS_at (k : Nat) (r : List UInt8) : octS (k + 1) r = if 48 ≤ atS r ∧ atS r ≤ 55 then octS k r.tail + 1 else 0 := by
  cases r with
  | nil => simp [octS, atS]
  | cons c r => rfl

theorem octal108_loop (H : B.H_chaseref03_octal T) {s : List UInt8} {i : Nat} (hs : s.length < 1000000000000) (hi : i ≤ 1000000000000) (st0 : St) : ∀ (m n : Nat) (e : Env) (st1 : St), n + m = 3 → Ext st0 st1 → eget e 0 = .str s → eget e 1 = .int .i64 i → eget e 5 = .int .i64 n →
    Res (run T (.loop B.chaseref03_octal_l0) e st1) fun x e' s' => x = .exit 0 ∧ Ext st0 s' ∧ eget e' 5 = .int .i64 ((n + octS m (s.drop (i + n)) : Nat) : Int) := by
  intro m
  induction m with
  | zero =>
    intro n e st1 hn hx g0 g1 g5
    have : n = 3 := by omega
    subst this
    rw [run_loop]
    simp [B.chaseref03_octal_l0, go_sem, g0, g1, g5, hx, octS]
  | succ m ih =>
    intro n e st1 hn hx g0 g1 g5
    have e1 : IntKind.i64.wrap ((i : Int) + n) = ((i + n : Nat) : Int) := by rw [wrap64' (by omega) (by omega)]; omega
    have e4 : IntKind.i64.wrap ((n : Int) + 1) = ((n + 1 : Nat) : Int) := wrap64' (by omega) (by omega)
    have hat := fun (st' : St) (hw : st'.Wf) => at_tells (st := st') H.chaseref03_at hw (s := s) (i := i + n) hs
    have ht : (s.drop (i + n)).tail = s.drop (i + (n + 1)) := by simp [Nat.add_assoc]
    rw [octS_at, ht]
    generalize atS (s.drop (i + n)) = a at hat ⊢
    have hn3 : (n : Int) < 3 := by omega
    rw [run_loop]
    simp [B.chaseref03_octal_l0, go_sem, g0, g1, g5, hn3, e1]
    refine (hat _ hx.wf).use fun s1 x1' => ?_
    have x1 := hx.trans x1'
    by_cases h1 : 48 ≤ a
    · simp [go_sem, h1, show (48 : Int) ≤ a by omega, e1]
      refine (hat _ x1.wf).use fun s2 x2' => ?_
      have x2 := x1.trans x2'
      by_cases h2 : a ≤ 55
      · simp [go_sem, h1, h2, show (a : Int) ≤ 55 by omega]
        refine (ih (n + 1) _ s2 (by omega) x2 (by simp [go_sem]) (by simp [go_sem]) (by simp [go_sem, e4])).mono ?_
        rintro x e' s' ⟨a1, a2, a3⟩
        exact ⟨a1, a2, by rw [a3]; congr 1; omega⟩
      · simp [go_sem, h1, h2, show ¬ (a : Int) ≤ 55 by omega, x2]
    · simp [go_sem, h1, show ¬ (48 : Int) ≤ a by omega, x1]

theorem octal108_tells (H : B.H_chaseref03_octal T) (hwf : st.Wf) {s : List UInt8} {i : Nat} (hi : i ≤ 1000000000000) (hs : s.length < 1000000000000) : Tells T st (.fn 108 [] []) [.str s, .int .i64 (i : Int)] (.int .i64 (octS 3 (s.drop i) : Nat)) := by
  refine tells_of H.e H.f rfl ?_
  simp [B.chaseref03_octal, go_sem]
  refine (octal108_loop H hs hi st 3 0 _ st (by omega) (.refl hwf) (by simp [go_sem]) (by simp [go_sem]) (by simp [go_sem])).mono ?_
  rintro x e s' ⟨rfl, x2, g⟩
  simp [go_sem, g, x2]

/-- Octal digits' value. -/
def octV (n : Nat) (l : List UInt8) : Nat := l.foldl (fun v c => 8 * v + (c.toNat - 48)) n
theorem octN_eq : ∀ (k n : Nat) (r : List UInt8), octN k n r = (octV n (r.take (octS k r)), octS k r)
  | 0, n, r => by simp [octN, octS, octV]
  | k + 1, n, [] => by simp [octN, octS, octV]
  | k + 1, n, c :: r => by
    simp only [octN, octS]
    split
    · rw [octN_eq k]
      simp [octV]
    · simp [octV]
theorem octS_dig : ∀ (k : Nat) (r : List UInt8), ∀ c ∈ r.take (octS k r), 48 ≤ c.toNat ∧ c.toNat ≤ 55
  | 0, r, c, h => by simp [octS] at h
  | k + 1, [], c, h => by simp [octS] at h
  | k + 1, d :: r, c, h => by
    simp only [octS] at h
    split at h
    · rw [List.take_succ_cons] at h
      rcases List.mem_cons.1 h with rfl | h
      · assumption
      · exact octS_dig k r c h
    · simp at h
theorem octS_le : ∀ (k : Nat) (r : List UInt8), octS k r ≤ k ∧ octS k r ≤ r.length
  | 0, r => by simp [octS]
  | k + 1, [] => by simp [octS]
  | k + 1, d :: r => by
    have := octS_le k r
    simp only [octS, List.length_cons]
    split <;> omega

theorem octV_le : ∀ (l : List UInt8) (n : Nat), (∀ c ∈ l, 48 ≤ c.toNat ∧ c.toNat ≤ 55) → octV n l + 1 ≤ (n + 1) * 8 ^ l.length
  | [], n, _ => by simp [octV]
  | c :: l, n, h => by
    have h1 := h c List.mem_cons_self
    have := octV_le l (8 * n + (c.toNat - 48)) fun d hd => h d (List.mem_cons_of_mem _ hd)
    have e : octV n (c :: l) = octV (8 * n + (c.toNat - 48)) l := rfl
    rw [e, List.length_cons, Nat.pow_succ, Nat.mul_comm (8 ^ l.length) 8, ← Nat.mul_assoc]
    exact Nat.le_trans this (Nat.mul_le_mul_right _ (by omega))

theorem octV_loop {s : List UInt8} {i K : Nat} (hs : s.length < 1000000000000) (hK : K ≤ 3) (hi : i + 1 + K ≤ s.length) (hdig : ∀ c ∈ (s.drop (i + 1)).take K, 48 ≤ c.toNat ∧ c.toNat ≤ 55) (hwf : st.Wf) : ∀ (m k v : Nat) (e : Env), k + m = K → v + 1 ≤ 8 ^ k → eget e 0 = .str s → eget e 1 = .int .i64 i → eget e 6 = .int .i64 K → eget e 7 = .int .i64 v → eget e 8 = .int .i64 k →
    Res (run T (.loop B.chaseref03_escape_l0) e st) fun x e' s' => x = .exit 0 ∧ s' = st ∧ eget e' 6 = .int .i64 K ∧ eget e' 7 = .int .i64 ((octV v (((s.drop (i + 1)).take K).drop k) : Nat) : Int) := by
  intro m
  induction m with
  | zero =>
    intro k v e hk hv g0 g1 g6 g7 g8
    have : k = K := by omega
    subst this
    rw [run_loop]
    have hz : ((s.drop (i + 1)).take k).drop k = [] := List.drop_eq_nil_iff.2 (by rw [List.length_take]; omega)
    simp [B.chaseref03_escape_l0, go_sem, g0, g1, g6, g7, g8]
    rfl
  | succ m ih =>
    intro k v e hk hv g0 g1 g6 g7 g8
    have hkK : (k : Int) < K := by omega
    obtain ⟨c, hc, hd⟩ := idx_some (s := s) (i := i + 1 + k) (by omega)
    have hd2 : ((s.drop (i + 1)).take K).drop k = c :: ((s.drop (i + 1)).take K).drop (k + 1) := by
      have hl : k < ((s.drop (i + 1)).take K).length := by rw [List.length_take, List.length_drop]; omega
      obtain ⟨c', hc', hd'⟩ := idx_some hl
      rw [hd']
      have : c' = c := by
        rw [List.getElem?_take, if_pos (by omega), List.getElem?_drop, hc] at hc'
        exact (Option.some.inj hc').symm
      rw [this]
    have hcd := hdig c (List.mem_of_mem_drop (by rw [hd2]; exact List.mem_cons_self))
    have h8k : (8 : Nat) ^ k ≤ 8 ^ 3 := Nat.pow_le_pow_right (by omega) (by omega)
    have h8 : (8 : Nat) ^ 3 = 512 := rfl
    have e1 : IntKind.i64.wrap ((v : Int) * 8) = v * 8 := wrap64' (by omega) (by omega)
    have e2 : IntKind.i64.wrap ((i : Int) + 1) = (i : Int) + 1 := wrap64' (by omega) (by omega)
    have e3 : IntKind.i64.wrap ((i : Int) + 1 + k) = ((i + 1 + k : Nat) : Int) := by rw [wrap64' (by omega) (by omega)]; omega
    have e4 : IntKind.i64.wrap ((c.toNat : Nat) : Int) = c.toNat := wrap64' (by omega) (by omega)
    have e5 : IntKind.i64.wrap ((v : Int) * 8 + c.toNat) = v * 8 + c.toNat := wrap64' (by omega) (by omega)
    have e6 : IntKind.i64.wrap ((v : Int) * 8 + c.toNat - 48) = ((8 * v + (c.toNat - 48) : Nat) : Int) := by rw [wrap64' (by omega) (by omega)]; omega
    have e7 : IntKind.i64.wrap ((k : Int) + 1) = ((k + 1 : Nat) : Int) := wrap64' (by omega) (by omega)
    obtain ⟨q, hq⟩ : ∃ q, q = i + 1 + k := ⟨_, rfl⟩
    rw [← hq] at e3 hc
    have hql : (q : Int) < s.length := by omega
    rw [run_loop]
    simp [B.chaseref03_escape_l0, go_sem, g0, g1, g6, g7, g8, hkK, e1, e2, e3, e4, e5, e6, hc]
    rw [hd2]
    refine (ih (k + 1) (8 * v + (c.toNat - 48)) _ (by omega) (by rw [Nat.pow_succ]; omega) (by simp [go_sem]) (by simp [go_sem]) (by simp [go_sem]) (by simp [go_sem, e6]) (by simp [go_sem, e7])).mono fun x e s h => h

theorem letter_not {c : UInt8} (h : 48 ≤ c.toNat ∧ c.toNat ≤ 55 ∨ c = 10 ∨ c = 13) : letter c = none := by
  have hb : (List.range 256).all (fun n => !((decide (48 ≤ n) && decide (n ≤ 55)) || decide (n = 10) || decide (n = 13)) || (letter (UInt8.ofNat n)).isNone) = true := by kernel_rfl
  have := all_octets hb c
  simp only [UInt8.ofNat_toNat] at this
  cases hl : letter c with
  | none => rfl
  | some o =>
    rw [hl] at this
    simp at this
    rcases h with h | rfl | rfl
    · omega
    · simp at this
    · simp at this

theorem made_rd {s2 : St} (x : Ext st s2) (c : UInt8) : Ext st ⟨dropLoc st.nx ((s2.nx, .cells 5 false [.int .u8 (c.toNat : Int)]) :: s2.h), s2.nx + 1⟩ ∧ Rd (dropLoc st.nx ((s2.nx, AObj.cells 5 false [.int .u8 (c.toNat : Int)]) :: s2.h)) (.slice s2.nx 0 1 (.known 1)) 1 1 (u8s [c]) := by
  have y := x.trans (Ext.new x.wf (.cells 5 false [.int .u8 (c.toNat : Int)]))
  refine ⟨y.dropLoc, .inr ⟨_, _, _, rfl, rd_all (ty := 5) (l := false) (hget_dropLoc_keep y.wf (by simp [hget_cons]; rfl) rfl) rfl⟩⟩

theorem endS_line {c : UInt8} {r : List UInt8} (h : c = 10 ∨ c = 13) : endS (c :: r) = 1 + lineN c r := by
  unfold endS lineN
  rcases h with rfl | rfl
  · simp [atS]
  · cases r with
    | nil => simp [atS]
    | cons b r =>
      by_cases hb : b = 10
      · subst hb; simp [atS]
      · have : ¬ b.toNat = 10 := fun e => hb (UInt8.toNat_inj.1 e)
        simp [atS, hb, this]
theorem endS_none {c : UInt8} {r : List UInt8} (h : ¬ (c = 10 ∨ c = 13)) : endS (c :: r) = 0 := by
  simp only [not_or] at h
  have h1 : ¬ c.toNat = 10 := fun e => h.1 (UInt8.toNat_inj.1 e)
  have h2 : ¬ c.toNat = 13 := fun e => h.2 (UInt8.toNat_inj.1 e)
  simp [endS, atS, h1, h2]

theorem refEscape_res (H : B.H_chaseref03_escape T) (hwf : st.Wf) {s : List UInt8} {i : Nat} (hs : s.length < 1000000000000) (hi : i + 1 < s.length) {o : List UInt8} {m : Nat} (he : esc (s.drop (i + 1)) = some (o, m)) :
    CRes (call T (.fn 89 [] []) [.str s, .int .i64 (i : Int)] st) fun v s' => ∃ sv, v = .tuple [sv, .int .i64 ((1 + m : Nat) : Int)] ∧ Ext st s' ∧ Rd s'.h sv 1 o.length (u8s o) := by
  refine call_res H.e H.f rfl ?_
  have e1 : IntKind.i64.wrap ((i : Int) + 1) = ((i + 1 : Nat) : Int) := wrap64' (by omega) (by omega)
  have ho := fun (st' : St) (hw : st'.Wf) => octal108_tells (st := st') H.chaseref03_octal hw (s := s) (i := i + 1) (by omega) hs
  have hen := fun (st' : St) (hw : st'.Wf) => ended_tells (st := st') H.chaseref03_ended hw (s := s) (i := i + 1) (by omega) hs
  obtain ⟨c, hc, hd⟩ := idx_some (s := s) (i := i + 1) (by omega)
  have hdig := octS_dig 3 (s.drop (i + 1))
  have hle := octS_le 3 (s.drop (i + 1))
  rw [List.length_drop] at hle
  simp [B.chaseref03_escape, go_sem, e1]
  refine (ho _ hwf).use fun s1 x1 => ?_
  obtain ⟨k2, hk2⟩ : ∃ k2, k2 = i + 1 := ⟨_, rfl⟩
  by_cases hoc : 48 ≤ c.toNat ∧ c.toNat ≤ 55
  · have hK : octS 3 (s.drop (i + 1)) = octS 2 (s.drop (i + 1 + 1)) + 1 := by rw [hd]; simp [octS, hoc]
    have hesc : esc (s.drop (i + 1)) = some ([UInt8.ofNat (octV 0 ((s.drop (i + 1)).take (octS 3 (s.drop (i + 1)))))], octS 3 (s.drop (i + 1))) := by
      rw [hK, hd]
      have h10 : ¬ (c = 10 ∨ c = 13) := by rintro (rfl | rfl) <;> simp at hoc
      simp only [esc, letter_not (.inl hoc), if_neg h10, if_pos hoc, octN_eq, List.take_succ_cons]
      simp [octV, Nat.add_comm]
    rw [hesc] at he
    simp only [Option.some.injEq, Prod.mk.injEq] at he
    obtain ⟨rfl, rfl⟩ := he
    have hvl := octV_le ((s.drop (i + 1)).take (octS 3 (s.drop (i + 1)))) 0 hdig
    have hKl : ((s.drop (i + 1)).take (octS 3 (s.drop (i + 1)))).length ≤ 3 := by rw [List.length_take]; omega
    have h8k := Nat.pow_le_pow_right (show 0 < 8 by omega) hKl
    have h8 : (8 : Nat) ^ 3 = 512 := rfl
    have lp := fun e a b c d f => octV_loop (T := T) (st := s1) (K := octS 3 (s.drop (i + 1))) hs hle.1 (by omega) hdig x1.wf (octS 3 (s.drop (i + 1))) 0 0 e (by omega) (by simp) a b c d f
    simp only [List.drop_zero] at lp
    have hK0 : 0 < octS 3 (s.drop (i + 1)) := by omega
    generalize octV 0 ((s.drop (i + 1)).take (octS 3 (s.drop (i + 1)))) = V at lp hvl ⊢
    have hV : V ≤ 511 := by omega
    generalize octS 3 (s.drop (i + 1)) = K at lp hK0 hle ⊢
    have hK0' : (0 : Int) < K := by omega
    simp [go_sem, hK0, hK0']
    refine (lp _ (by simp [go_sem]) (by simp [go_sem]) (by simp [go_sem]) (by simp [go_sem]) (by simp [go_sem])).mono ?_
    rintro x e' s2 ⟨rfl, rfl, g6, g7⟩
    have w1 : (V : Int).tmod 256 = ((V % 256 : Nat) : Int) := by rw [Int.tmod_eq_emod_of_nonneg (by omega)]; omega
    have w2 : IntKind.u8.wrap ((V % 256 : Nat) : Int) = ((UInt8.ofNat V).toNat : Int) := by
      rw [wrap_u8 (by omega) (by omega)]; simp
    have w3 : IntKind.i64.wrap (1 + (K : Int)) = ((1 + K : Nat) : Int) := by rw [wrap64' (by omega) (by omega)]; omega
    obtain ⟨y1, y2⟩ := made_rd x1 (UInt8.ofNat V)
    generalize UInt8.ofNat V = b at w2 y1 y2 ⊢
    generalize V % 256 = Vr at w1 w2
    simp [go_sem, g6, g7, NO.run, w1, w2, w3, reps]
    exact ⟨y1, y2⟩
  · have hK : octS 3 (s.drop (i + 1)) = 0 := by rw [hd]; simp [octS, hoc]
    rw [hK]
    simp [go_sem, e1]
    refine (hen _ x1.wf).use fun s2 x2' => ?_
    have x2 := x1.trans x2'
    by_cases hln : c = 10 ∨ c = 13
    · have hes : endS (s.drop (i + 1)) = 1 + lineN c (s.drop (i + 1 + 1)) := by rw [hd]; exact endS_line hln
      have hesc : esc (s.drop (i + 1)) = some ([], 1 + lineN c (s.drop (i + 1 + 1))) := by
        rw [hd]; simp only [esc, letter_not (.inr hln), if_pos hln]
      rw [hesc] at he
      simp only [Option.some.injEq, Prod.mk.injEq] at he
      obtain ⟨rfl, rfl⟩ := he
      have hlu := lineN_used c (s.drop (i + 1 + 1))
      rw [List.length_drop] at hlu
      rw [hes]
      generalize lineN c (s.drop (i + 1 + 1)) = L at hlu ⊢
      obtain ⟨L1, hL1⟩ : ∃ L1, L1 = 1 + L := ⟨_, rfl⟩
      have hL0 : (0 : Int) < L1 := by omega
      have hL0' : 0 < L1 := by omega
      rw [← hL1]
      have w3 : IntKind.i64.wrap (1 + (L1 : Int)) = ((1 + L1 : Nat) : Int) := by rw [wrap64' (by omega) (by omega)]; omega
      simp [go_sem, hL0, hL0', w3]
      exact ⟨x2.dropLoc, .inl ⟨rfl, rfl, rfl⟩⟩
    · have hes : endS (s.drop (i + 1)) = 0 := by rw [hd]; exact endS_none hln
      rw [hes]
      have hesc : esc (s.drop (i + 1)) = some (match letter c with | some o => ([o], 1) | none => ([c], 1)) := by
        rw [hd]; simp only [esc, if_neg hln, if_neg hoc]; rfl
      rw [hesc] at he
      obtain ⟨q, hq⟩ : ∃ q, q = i + 1 := ⟨_, rfl⟩
      rw [← hq] at hc e1
      have fin : ∀ (b : UInt8), o = [b] ∧ m = 1 → Ext st ⟨dropLoc st.nx ((s2.nx, .cells 5 false [.int .u8 (b.toNat : Int)]) :: s2.h), s2.nx + 1⟩ ∧ Rd (dropLoc st.nx ((s2.nx, AObj.cells 5 false [.int .u8 (b.toNat : Int)]) :: s2.h)) (.slice s2.nx 0 1 (.known 1)) 1 o.length (u8s o) := by
        rintro b ⟨rfl, rfl⟩
        exact made_rd x2 b
      have hm1 : m = 1 := by
        cases hl : letter c <;> rw [hl] at he <;> simp at he <;> exact he.2.symm
      subst hm1
      have hn : ∀ k : UInt8, c ≠ k → ¬ (c.toNat : Int) = (k.toNat : Int) ∧ ¬ c.toNat = k.toNat := fun k h => ⟨u8_ne h rfl, fun e => h (UInt8.toNat_inj.1 e)⟩
      by_cases h1 : c = 110
      · subst h1
        simp [letter] at he
        have f := fin 10 ⟨he.symm, rfl⟩
        simp [go_sem, e1, hc, NO.run, reps]
        exact f
      by_cases h2 : c = 114
      · subst h2
        simp [letter] at he
        have f := fin 13 ⟨he.symm, rfl⟩
        simp [go_sem, e1, hc, NO.run, reps]
        exact f
      by_cases h3 : c = 116
      · subst h3
        simp [letter] at he
        have f := fin 9 ⟨he.symm, rfl⟩
        simp [go_sem, e1, hc, NO.run, reps]
        exact f
      by_cases h4 : c = 98
      · subst h4
        simp [letter] at he
        have f := fin 8 ⟨he.symm, rfl⟩
        simp [go_sem, e1, hc, NO.run, reps]
        exact f
      by_cases h5 : c = 102
      · subst h5
        simp [letter] at he
        have f := fin 12 ⟨he.symm, rfl⟩
        simp [go_sem, e1, hc, NO.run, reps]
        exact f
      have m1 := hn _ h1
      have m2 := hn _ h2
      have m3 := hn _ h3
      have m4 := hn _ h4
      have m5 := hn _ h5
      simp at m1 m2 m3 m4 m5
      simp [letter, h1, h2, h3, h4, h5] at he
      have f := fin c ⟨he.symm, rfl⟩
      simp [go_sem, e1, hc, NO.run, reps, m1, m2, m3, m4, m5]
      exact f
end Go.Ev

/- The reference's Unquote told. -/
namespace Go.Ev
open Go
set_option linter.unusedSimpArgs false
set_option linter.unusedSectionVars false
set_option linter.unusedVariables false

variable {T : Tab} {st : St}

/-- What Unquote answers to what was read. -/
def finU (n : Nat) : Option (List UInt8 × List UInt8) → List UInt8 × Nat × Int
  | none => ([], 0, 5)
  | some (o, l) => if 1000 < o.length then ([], 0, 26) else (o, n - l.length, 0)

theorem refUnquote_loop (H : B.H_chaseref03_Unquote T) {s : List UInt8} (hs : s.length < 1000000000000) (st0 : St) : ∀ (f d k : Nat) (out : List UInt8) (e : Env) (st1 : St) (v : AV), s.length + 1 ≤ k + f → k ≤ s.length → 1 ≤ d → d ≤ k + 1 → out.length ≤ k → Ext st0 st1 → Grow st0 st1 v out → eget e 0 = .str s → eget e 5 = v → eget e 6 = .int .i64 d → eget e 7 = .int .i64 k →
    Res (run T (.loop B.chaseref03_Unquote_l0) e st1) fun x e' s' => Ext st0 s' ∧ ((x = .exit 0 ∧ unq f d (s.drop k) out = none) ∨ (x = .ret ∧ eget e' 2 = .str (finU s.length (unq f d (s.drop k) out)).1 ∧ eget e' 3 = .int .i64 ((finU s.length (unq f d (s.drop k) out)).2.1 : Int) ∧ eget e' 4 = .int .i64 (finU s.length (unq f d (s.drop k) out)).2.2)) := by
  intro f
  induction f with
  | zero => intro d k out e st1 v h1 h2; omega
  | succ f ih =>
    intro d k out e st1 v hf hk hd1 hdk ho hx hg g0 g5 g6 g7
    rw [run_loop]
    by_cases hkl : k = s.length
    · subst hkl
      have hd : s.drop s.length = [] := by simp
      rw [hd]
      simp [B.chaseref03_Unquote_l0, go_sem, g0, g5, g6, g7, unq, hx]
    have hkl1 : k < s.length := by omega
    have hkl2 : (k : Int) < s.length := by omega
    obtain ⟨c, hc, hd⟩ := idx_some hkl1
    have hen := fun (st' : St) (hw : st'.Wf) => ended_tells (st := st') H.chaseref03_ended hw (s := s) (i := k) (by omega) hs
    have step : ∀ (d' : Nat) (o : List UInt8) (k' : Nat) (e' : Env) (st2 : St) (v' : AV), unq (f + 1) d (s.drop k) out = unq f d' (s.drop k') (out ++ o) → k + 1 ≤ k' → k' ≤ s.length → 1 ≤ d' → d' ≤ k + 2 → k + o.length ≤ k' → Ext st0 st2 → Grow st0 st2 v' (out ++ o) → eget e' 0 = .str s → eget e' 5 = v' → eget e' 6 = .int .i64 d' → eget e' 7 = .int .i64 k' →
        Res (run T (.loop B.chaseref03_Unquote_l0) e' st2) fun x e' s' => Ext st0 s' ∧ ((x = .exit 0 ∧ unq (f + 1) d (s.drop k) out = none) ∨ (x = .ret ∧ eget e' 2 = .str (finU s.length (unq (f + 1) d (s.drop k) out)).1 ∧ eget e' 3 = .int .i64 ((finU s.length (unq (f + 1) d (s.drop k) out)).2.1 : Int) ∧ eget e' 4 = .int .i64 (finU s.length (unq (f + 1) d (s.drop k) out)).2.2)) := by
      intro d' o k' e' st2 v' he h1 h2 h3 h3' h4 h5 h6 k0 k5 k6 k7
      rw [he]
      exact ih d' k' (out ++ o) e' st2 v' (by omega) h2 h3 (by omega) (by rw [List.length_append]; omega) h5 h6 k0 k5 k6 k7
    generalize hU : unq (f + 1) d (s.drop k) out = U at step ⊢
    have ek : IntKind.i64.wrap ((k : Int) + 1) = ((k + 1 : Nat) : Int) := wrap64' (by omega) (by omega)
    by_cases h41 : c = 41
    · subst h41
      by_cases hdd : d = 1
      · subst hdd
        have hun : U = some (out, s.drop (k + 1)) := by rw [← hU, hd]; simp [unq]
        have hlen : s.length - (s.drop (k + 1)).length = k + 1 := by rw [List.length_drop]; omega
        have hu8 := toBytes_u8s out
        obtain ⟨⟨m, hsl⟩, b6, b7⟩ := hg
        rcases hsl with ⟨k1, k2, k3⟩ | ⟨k1, k2, k3⟩ | ⟨ty', k1, k2, k3⟩
        · have : out = [] := List.length_eq_zero_iff.1 k3
          subst this
          subst k1
          rw [hun]
          simp only [finU, hlen]
          obtain ⟨q, hq⟩ : ∃ q, q = k + 1 := ⟨_, rfl⟩
          rw [← hq] at ek ⊢
          simp [B.chaseref03_Unquote_l0, go_sem, g0, g5, g6, g7, hkl2, hc, RO.run, ek, hx]
        · have hrd : rdCells st1.h m 0 out.length = some (u8s out) := by
            simp [rdCells, k2, u8s_len]
            exact List.take_of_length_le (by rw [u8s_len]; exact Nat.le_refl _)
          subst k1
          rw [hun]
          simp only [finU, hlen]
          obtain ⟨q, hq⟩ : ∃ q, q = k + 1 := ⟨_, rfl⟩
          rw [← hq] at ek ⊢
          by_cases hlong : 1000 < out.length
          · simp [B.chaseref03_Unquote_l0, go_sem, g0, g5, g6, g7, hkl2, hc, RO.run, ek, hx, hlong, show (1000 : Int) < out.length by omega]
          · simp [B.chaseref03_Unquote_l0, go_sem, g0, g5, g6, g7, hkl2, hc, RO.run, ek, hx, hlong, show ¬ (1000 : Int) < out.length by omega, hrd, hu8]
        · exact absurd k1 (b7 _ _ _ _)
      · have hdd' : ¬ (d : Int) = 1 := by omega
        have hun : U = unq f (d - 1) (s.drop (k + 1)) (out ++ [41]) := by rw [← hU, hd]; simp [unq, hdd]
        have he0 : endS (s.drop k) = 0 := by rw [hd]; exact endS_none (by decide)
        have e6 : IntKind.i64.wrap ((d : Int) - 1) = ((d - 1 : Nat) : Int) := by rw [wrap64' (by omega) (by omega)]; omega
        simp [B.chaseref03_Unquote_l0, go_sem, g0, g5, g6, g7, hkl2, hc, hdd, hdd']
        refine (hen _ hx.wf).use fun s1 x1' => ?_
        have x1 := hx.trans x1'
        have hg1 := hg.ext x1' hx.wf
        rw [he0]
        simp [go_sem, hc, NO.run, reps]
        refine (hg1.push x1.nx x1.wf (k := 1) (by omega) (c := 41) (by omega)).mono ?_
        rintro v2 s2 ⟨o2, f2⟩
        have x2 := x1.frm f2 hg1.ge
        simp [go_sem]
        exact step (d - 1) [41] (k + 1) _ _ v2 hun (by omega) (by omega) (by omega) (by omega) (by simp) x2 o2 (by simp [go_sem]) (by simp [go_sem]) (by simp [go_sem, e6]) (by simp [go_sem, ek])
    · have n1 : ¬ (c.toNat : Int) = 41 := u8_ne h41 rfl
      have m1 : ¬ c.toNat = 41 := by omega
      by_cases h92 : c = 92
      · subst h92
        by_cases hk1 : k + 1 = s.length
        · have hun : U = none := by rw [← hU, hd, hk1]; simp [unq, esc]
          have hk1' : ((k + 1 : Nat) : Int) = s.length := by omega
          obtain ⟨q, hq⟩ : ∃ q, q = k + 1 := ⟨_, rfl⟩
          rw [← hq] at ek hk1'
          simp [B.chaseref03_Unquote_l0, go_sem, g0, g5, g6, g7, hkl2, hc, ek, hk1', hun, finU, hx]
        · obtain ⟨q, hq⟩ : ∃ q, q = k + 1 := ⟨_, rfl⟩
          have hk1' : ¬ (q : Int) = s.length := by omega
          have hk1'' : ¬ q = s.length := by omega
          obtain ⟨p, hes⟩ : ∃ p, esc (s.drop (k + 1)) = some p := by
            obtain ⟨c2, _, hd2⟩ := idx_some (s := s) (i := k + 1) (by omega)
            rw [hd2]; exact ⟨_, rfl⟩
          obtain ⟨o, n⟩ := p
          obtain ⟨u1, u2, u3⟩ := esc_used hes
          rw [List.length_drop] at u2
          have hun : U = unq f d (s.drop (k + 1 + n)) (out ++ o) := by rw [← hU, hd]; simp [unq, hes, List.drop_drop]
          have hesc := refEscape_res H.chaseref03_escape hx.wf hs (by omega) hes
          have en : IntKind.i64.wrap ((k : Int) + ((1 + n : Nat) : Int)) = ((k + 1 + n : Nat) : Int) := by rw [wrap64' (by omega) (by omega)]; omega
          rw [← hq] at ek
          obtain ⟨n1', hn1⟩ : ∃ n1, n1 = 1 + n := ⟨_, rfl⟩
          rw [← hn1] at hesc en
          simp [B.chaseref03_Unquote_l0, go_sem, g0, g5, g6, g7, hkl2, hc, ek, hk1', hk1'']
          refine hesc.mono ?_
          rintro vv s1 ⟨sv, rfl, x1', hrd⟩
          have x1 := hx.trans x1'
          have hg1 := hg.ext x1' hx.wf
          simp [go_sem]
          refine (hg1.app x1.nx x1.wf hrd (by omega)).mono ?_
          rintro v2 s2 ⟨o2, f2⟩
          have x2 := x1.frm f2 hg1.ge
          simp [go_sem]
          exact step d o (k + 1 + n) _ _ v2 hun (by omega) (by omega) (by omega) (by omega) (by omega) x2 o2 (by simp [go_sem]) (by simp [go_sem]) (by simp [go_sem]) (by simp [go_sem, en])
      · have n2 : ¬ (c.toNat : Int) = 92 := u8_ne h92 rfl
        have m2 : ¬ c.toNat = 92 := by omega
        by_cases hln : c = 10 ∨ c = 13
        · have hes : endS (s.drop k) = 1 + lineN c (s.drop (k + 1)) := by rw [hd]; exact endS_line hln
          have h40 : ¬ c = 40 := by rintro rfl; simp at hln
          have hun : U = unq f d (s.drop (k + 1 + lineN c (s.drop (k + 1)))) (out ++ [10]) := by rw [← hU, hd]; simp [unq, h92, h40, h41, hln, List.drop_drop]
          have hlu := lineN_used c (s.drop (k + 1))
          rw [List.length_drop] at hlu
          generalize lineN c (s.drop (k + 1)) = L at hes hun hlu
          have eL : IntKind.i64.wrap ((k : Int) + ((1 + L : Nat) : Int)) = ((k + 1 + L : Nat) : Int) := by rw [wrap64' (by omega) (by omega)]; omega
          rw [hes] at hen
          obtain ⟨L1, hL1⟩ : ∃ L1, L1 = 1 + L := ⟨_, rfl⟩
          have hL0 : (0 : Int) < L1 := by omega
          have hL0' : 0 < L1 := by omega
          rw [← hL1] at hen eL
          simp [B.chaseref03_Unquote_l0, go_sem, g0, g5, g6, g7, hkl2, hc, n1, n2, m1, m2]
          refine (hen _ hx.wf).use fun s1 x1' => ?_
          have x1 := hx.trans x1'
          have hg1 := hg.ext x1' hx.wf
          simp [go_sem, hc, NO.run, reps, hL0, hL0']
          refine (hg1.push x1.nx x1.wf (k := 1) (by omega) (c := 10) (by omega)).mono ?_
          rintro v2 s2 ⟨o2, f2⟩
          have x2 := x1.frm f2 hg1.ge
          simp [go_sem]
          refine (hen _ x2.wf).use fun s3 x3' => ?_
          have x3 := x2.trans x3'
          simp [go_sem]
          exact step d [10] (k + 1 + L) _ _ v2 hun (by omega) (by omega) (by omega) (by omega) (by simp) x3 (o2.ext x3' x2.wf) (by simp [go_sem]) (by simp [go_sem]) (by simp [go_sem]) (by simp [go_sem, eL])
        · have he0 : endS (s.drop k) = 0 := by rw [hd]; exact endS_none hln
          rw [he0] at hen
          by_cases h40 : c = 40
          · subst h40
            have hun : U = unq f (d + 1) (s.drop (k + 1)) (out ++ [40]) := by rw [← hU, hd]; simp [unq]
            have e6 : IntKind.i64.wrap ((d : Int) + 1) = ((d + 1 : Nat) : Int) := wrap64' (by omega) (by omega)
            simp [B.chaseref03_Unquote_l0, go_sem, g0, g5, g6, g7, hkl2, hc]
            refine (hen _ hx.wf).use fun s1 x1' => ?_
            have x1 := hx.trans x1'
            have hg1 := hg.ext x1' hx.wf
            simp [go_sem, hc, NO.run, reps]
            refine (hg1.push x1.nx x1.wf (k := 1) (by omega) (c := 40) (by omega)).mono ?_
            rintro v2 s2 ⟨o2, f2⟩
            have x2 := x1.frm f2 hg1.ge
            simp [go_sem]
            exact step (d + 1) [40] (k + 1) _ _ v2 hun (by omega) (by omega) (by omega) (by omega) (by simp) x2 o2 (by simp [go_sem]) (by simp [go_sem]) (by simp [go_sem, e6]) (by simp [go_sem, ek])
          · have hun : U = unq f d (s.drop (k + 1)) (out ++ [c]) := by rw [← hU, hd]; simp [unq, h92, h40, h41, hln]
            have n3 : ¬ (c.toNat : Int) = 40 := u8_ne h40 rfl
            have m3 : ¬ c.toNat = 40 := by omega
            simp [B.chaseref03_Unquote_l0, go_sem, g0, g5, g6, g7, hkl2, hc, n1, n2, m1, m2]
            refine (hen _ hx.wf).use fun s1 x1' => ?_
            have x1 := hx.trans x1'
            have hg1 := hg.ext x1' hx.wf
            simp [go_sem, hc, NO.run, reps, n1, n2, n3, m1, m2, m3]
            refine (hg1.push x1.nx x1.wf (k := 1) (by omega) (c := c) (by omega)).mono ?_
            rintro v2 s2 ⟨o2, f2⟩
            have x2 := x1.frm f2 hg1.ge
            simp [go_sem]
            exact step d [c] (k + 1) _ _ v2 hun (by omega) (by omega) (by omega) (by omega) (by simp) x2 o2 (by simp [go_sem]) (by simp [go_sem]) (by simp [go_sem]) (by simp [go_sem, ek])

theorem refUnquote_tells (H : B.H_chaseref03_Unquote T) (hwf : st.Wf) {s : List UInt8} (hs : s.length < 1000000000000) : Tells T st (.fn 70 [] []) [.str s] (toU (unquoteT s)) := by
  refine tells_of H.e H.f rfl ?_
  simp [B.chaseref03_Unquote, go_sem]
  refine (at_tells H.chaseref03_at hwf hs (i := 0)).use fun s1 x1 => ?_
  rw [List.drop_zero]
  cases s with
  | nil => simp [go_sem, atS, unquoteT, toU, x1]
  | cons c r =>
    by_cases h40 : c = 40
    · subst h40
      have ht : unquoteT (40 :: r) = finU (40 :: r).length (unq (40 :: r).length 1 r []) := by
        rw [unquoteT, if_pos rfl]
        rfl
      simp [go_sem, atS]
      refine (refUnquote_loop H hs st (40 :: r).length 1 1 [] _ s1 .nilslice (by simp; omega) (by simp) (by omega) (by omega) (by simp) x1 (.nil _ _) (by simp [go_sem]) (by simp [go_sem]) (by simp [go_sem]) (by simp [go_sem])).mono ?_
      rw [show (40 :: r : List UInt8).drop 1 = r from rfl, ht]
      generalize unq (40 :: r).length 1 r [] = U
      rintro x e s2 ⟨x2, ⟨rfl, rfl⟩ | ⟨rfl, g2, g3, g4⟩⟩
      · simp [go_sem, toU, finU, x2]
      · simp [go_sem, toU, g2, g3, g4, x2]
    · have n1 : ¬ (c.toNat : Int) = 40 := u8_ne h40 rfl
      have m1 : ¬ c.toNat = 40 := by omega
      simp [go_sem, atS, n1, m1, toU, unquoteT, h40, x1]
end Go.Ev

/- The reference's Quote; LexQuotes told. -/
namespace Go.Ev
open Go
set_option linter.unusedSimpArgs false
set_option linter.unusedSectionVars false
set_option linter.unusedVariables false

variable {T : Tab} {st : St}

/-- A block of octets, appended. -/
theorem GrowS.app {st0 s1 : St} (hF : st0.nx ≤ s1.nx) (hw : s1.Wf) {v : AV} {l m : List UInt8} (a : Sl s1 v 5 1 l.length (u8s l)) (b : Mine [] st0 v) (hm : 0 < m.length) (hl : l.length + m.length < 35184372088831) :
    CRes (aappend 5 1 1 ⟨(s1.nx, .cells 5 false (u8s m)) :: s1.h, s1.nx + 1⟩ v (.slice s1.nx 0 m.length (.known m.length))) fun v' s => Sl s v' 5 1 (l ++ m).length (u8s (l ++ m)) ∧ Mine [] st0 v' ∧ Ext s1 ⟨s1.h, s1.nx⟩ ∧ Frm v.nms s1 s := by
  have xa := Ext.new hw (.cells 5 false (u8s m))
  have hap := Sl.append (x := .slice s1.nx 0 m.length (.known m.length)) (j := m.length) (new := u8s m) (b := 1) (Frm.refl xa.wf v.nms) (fun n h => .inl h) (a.ext xa hw)
    (.inr ⟨_, _, _, rfl, rd_all (ty := 5) (l := false) (by simp [hget_cons]) (by rw [u8s_len, Nat.mul_one])⟩) (by simp [u8s, AV.sc]) (by omega) (by omega) (.inl hm)
  refine hap.mono ?_
  rintro v2 s2 ⟨k1, k2, k3, _⟩
  refine ⟨by rw [u8s_append, List.length_append]; exact k1, fun n hn => ?_, .refl hw, (xa.fr v.nms).trans k2 (fun n h => .inl h)⟩
  rcases k3 n hn with h | h
  · exact b n h
  · simp at h; exact .inr (by omega)

theorem od_eq2 (c : UInt8) : IntKind.u8.wrap (48 + IntKind.u8.wrap ((c.toNat : Int) / 64)) = ((od2 c).toNat : Int) ∧ IntKind.u8.wrap (48 + (IntKind.u8.wrap ((c.toNat : Int) / 8)).tmod 8) = ((od1 c).toNat : Int) ∧ IntKind.u8.wrap (48 + (c.toNat : Int).tmod 8) = ((od0 c).toNat : Int) := by
  have h : (List.range 256).all (fun n => decide (IntKind.u8.wrap (48 + IntKind.u8.wrap (((n : Nat) : Int) / 64)) = ((UInt8.ofNat (48 + n / 64)).toNat : Int)) && decide (IntKind.u8.wrap (48 + (IntKind.u8.wrap (((n : Nat) : Int) / 8)).tmod 8) = ((UInt8.ofNat (48 + n / 8 % 8)).toNat : Int)) && decide (IntKind.u8.wrap (48 + ((n : Nat) : Int).tmod 8) = ((UInt8.ofNat (48 + n % 8)).toNat : Int))) = true := by kernel_rfl
  have := all_octets h c
  simp only [Bool.and_eq_true, decide_eq_true_eq] at this
  exact ⟨this.1.1, this.1.2, this.2⟩

theorem refQuote_loop (H : B.H_chaseref03_Quote T) {s : List UInt8} (hs : s.length < 1000000000000) (st0 : St) : ∀ (m i : Nat) (out : List UInt8) (e : Env) (st1 : St) (v : AV), i + m = s.length → out.length ≤ 1 + 4 * i → Ext st0 st1 → Sl st1 v 5 1 out.length (u8s out) → Mine [] st0 v → eget e 0 = .str s → eget e 3 = v → eget e 4 = .int .i64 i →
    Res (run T (.loop B.chaseref03_Quote_l0) e st1) fun x e' s' => x = .exit 0 ∧ Ext st0 s' ∧ Sl s' (eget e' 3) 5 1 (out ++ (s.drop i).flatMap quoteC).length (u8s (out ++ (s.drop i).flatMap quoteC)) ∧ Mine [] st0 (eget e' 3) := by
  intro m
  induction m with
  | zero =>
    intro i out e st1 v hi ho hx hg hm g0 g3 g4
    have : i = s.length := by omega
    subst this
    have hd : s.drop s.length = [] := by simp
    rw [hd, run_loop]
    simp [B.chaseref03_Quote_l0, go_sem, g0, g3, g4, hx, hg, hm]
  | succ m ih =>
    intro i out e st1 v hi ho hx hg hm g0 g3 g4
    have hil : (i : Int) < s.length := by omega
    obtain ⟨c, hc, hd⟩ := idx_some (s := s) (i := i) (by omega)
    have ek : IntKind.i64.wrap ((i : Int) + 1) = ((i + 1 : Nat) : Int) := wrap64' (by omega) (by omega)
    have hge : ∀ n ∈ v.nms, st0.nx ≤ n := fun n hn => by
      rcases hm n hn with h | h
      · cases h
      · exact h
    have hql := quoteC_len c
    have hap := fun (q : List UInt8) (hq : 0 < q.length) (hq2 : q.length ≤ 4) => GrowS.app (m := q) hx.nx hx.wf hg hm hq (by omega)
    have step : ∀ (e' : Env) (st2 : St) (v' : AV), Ext st0 st2 → Sl st2 v' 5 1 (out ++ quoteC c).length (u8s (out ++ quoteC c)) → Mine [] st0 v' → eget e' 0 = .str s → eget e' 3 = v' → eget e' 4 = .int .i64 ((i + 1 : Nat) : Int) →
        Res (run T (.loop B.chaseref03_Quote_l0) e' st2) fun x e' s' => x = .exit 0 ∧ Ext st0 s' ∧ Sl s' (eget e' 3) 5 1 (out ++ (s.drop i).flatMap quoteC).length (u8s (out ++ (s.drop i).flatMap quoteC)) ∧ Mine [] st0 (eget e' 3) := by
      intro e' st2 v' h1 h2 h3 k0 k3 k4
      have := ih (i + 1) (out ++ quoteC c) e' st2 v' (by omega) (by rw [List.length_append]; omega) h1 h2 h3 k0 k3 k4
      rw [hd, List.flatMap_cons]
      rw [List.append_assoc] at this
      exact this
    generalize out ++ (s.drop i).flatMap quoteC = OUT at step ⊢
    rw [run_loop]
    by_cases h1 : c = 40 ∨ c = 41 ∨ c = 92
    · have hq : quoteC c = [92, c] := by simp [quoteC, h1]
      have hcn : (c.toNat : Int) = 40 ∨ (c.toNat : Int) = 41 ∨ (c.toNat : Int) = 92 := by rcases h1 with rfl | rfl | rfl <;> simp
      rw [hq] at step
      have hap2 := hap [92, c] (by simp) (by simp)
      have hu : u8s [92, c] = [.int .u8 92, .int .u8 (c.toNat : Int)] := rfl
      rw [hu] at hap2
      obtain ⟨n, hn⟩ : ∃ n : Int, n = c.toNat := ⟨_, rfl⟩
      rw [← hn] at hcn hap2
      rcases hcn with rfl | rfl | rfl
      all_goals
        simp [B.chaseref03_Quote_l0, go_sem, g0, g3, g4, hil, hc, ← hn, NO.run, reps]
        refine hap2.mono ?_
        rintro v2 s2 ⟨o2, m2, _, f2⟩
        simp [go_sem, ek]
        exact step _ _ v2 (hx.frm f2 hge) o2 m2 (by simp [go_sem]) (by simp [go_sem]) (by simp [go_sem])
    · simp only [not_or] at h1
      have n1 : ¬ (c.toNat : Int) = 40 := u8_ne h1.1 rfl
      have n2 : ¬ (c.toNat : Int) = 41 := u8_ne h1.2.1 rfl
      have n3 : ¬ (c.toNat : Int) = 92 := u8_ne h1.2.2 rfl
      have m1 : ¬ c.toNat = 40 := by omega
      have m2 : ¬ c.toNat = 41 := by omega
      have m3 : ¬ c.toNat = 92 := by omega
      by_cases h2 : c.toNat < 32 ∨ 126 < c.toNat
      · have hq : quoteC c = [92, od2 c, od1 c, od0 c] := by simp [quoteC, h1, h2]
        obtain ⟨d2, d1, d0⟩ := od_eq2 c
        rw [hq] at step
        have hap2 := hap [92, od2 c, od1 c, od0 c] (by simp) (by simp)
        have hu : u8s [92, od2 c, od1 c, od0 c] = [.int .u8 92, .int .u8 ((od2 c).toNat : Int), .int .u8 ((od1 c).toNat : Int), .int .u8 ((od0 c).toNat : Int)] := rfl
        rw [hu] at hap2
        have h2' : ¬ (32 : Int) ≤ c.toNat ∨ (32 : Int) ≤ c.toNat ∧ ¬ (c.toNat : Int) ≤ 126 := by omega
        rcases h2' with h2' | ⟨h2', h2''⟩
        · simp [B.chaseref03_Quote_l0, go_sem, g0, g3, g4, hil, hc, n1, n2, n3, m1, m2, m3, h2', d2, d1, d0, NO.run, reps]
          refine hap2.mono ?_
          rintro v2 s2 ⟨o2, mm2, _, f2⟩
          simp [go_sem, ek]
          exact step _ _ v2 (hx.frm f2 hge) o2 mm2 (by simp [go_sem]) (by simp [go_sem]) (by simp [go_sem])
        · simp [B.chaseref03_Quote_l0, go_sem, g0, g3, g4, hil, hc, n1, n2, n3, m1, m2, m3, h2', h2'', d2, d1, d0, NO.run, reps]
          refine hap2.mono ?_
          rintro v2 s2 ⟨o2, mm2, _, f2⟩
          simp [go_sem, ek]
          exact step _ _ v2 (hx.frm f2 hge) o2 mm2 (by simp [go_sem]) (by simp [go_sem]) (by simp [go_sem])
      · have hq : quoteC c = [c] := by simp [quoteC, h1, h2]
        rw [hq] at step
        have hap2 := hap [c] (by simp) (by simp)
        have hu : u8s [c] = [.int .u8 (c.toNat : Int)] := rfl
        rw [hu] at hap2
        have h2' : (32 : Int) ≤ c.toNat := by omega
        have h2'' : (c.toNat : Int) ≤ 126 := by omega
        simp [B.chaseref03_Quote_l0, go_sem, g0, g3, g4, hil, hc, n1, n2, n3, m1, m2, m3, h2', h2'', NO.run, reps]
        refine hap2.mono ?_
        rintro v2 s2 ⟨o2, mm2, _, f2⟩
        simp [go_sem, ek]
        exact step _ _ v2 (hx.frm f2 hge) o2 mm2 (by simp [go_sem]) (by simp [go_sem]) (by simp [go_sem])

theorem refQuote_tells (H : B.H_chaseref03_Quote T) (hwf : st.Wf) {s : List UInt8} (hs : s.length < 1000000000000) : Tells T st (.fn 72 [] []) [.str s] (.str (quoteS s)) := by
  refine tells_of H.e H.f rfl ?_
  have hx := Ext.new hwf (.cells 5 false [.int .u8 40])
  have hg : Sl ⟨(st.nx, .cells 5 false [.int .u8 40]) :: st.h, st.nx + 1⟩ (.slice st.nx 0 1 (.known 1)) 5 1 ([40] : List UInt8).length (u8s [40]) := ⟨st.nx, .made 5 rfl (by simp [hget_cons]; rfl) rfl⟩
  have hm : Mine [] st (.slice st.nx 0 1 (.known 1)) := fun n hn => by simp [AV.nms] at hn; subst hn; exact .inr (Nat.le_refl _)
  simp [B.chaseref03_Quote, go_sem, NO.run, reps]
  refine (refQuote_loop H hs st s.length 0 [40] _ _ _ (by simp) (by simp) hx hg hm (by simp [go_sem]) (by simp [go_sem]) (by simp [go_sem])).mono ?_
  rintro x e s2 ⟨rfl, x2, g2, m2⟩
  have hlen : ∀ l : List UInt8, (l.flatMap quoteC).length ≤ 4 * l.length := by
    intro l
    induction l with
    | nil => simp
    | cons c l ih =>
      have := quoteC_len c
      simp only [List.flatMap_cons, List.length_append, List.length_cons]
      omega
  have := hlen s
  rw [List.drop_zero] at g2
  obtain ⟨v, hv⟩ : ∃ v, eget e 3 = v := ⟨_, rfl⟩
  rw [hv] at g2 m2
  have hge : ∀ n ∈ v.nms, st.nx ≤ n := fun n hn => by
    rcases m2 n hn with h | h
    · cases h
    · exact h
  have hap := GrowS.app (m := [41]) x2.nx x2.wf g2 m2 (by simp) (by simp only [List.length_append, List.length_cons, List.length_nil]; omega)
  have hu : u8s [41] = [.int .u8 41] := rfl
  rw [hu] at hap
  simp [go_sem, hv, NO.run, reps]
  refine hap.mono ?_
  rintro v3 s3 ⟨o3, m3, _, f3⟩
  have hq : [40] ++ s.flatMap quoteC ++ [41] = quoteS s := by simp [quoteS]
  rw [hq] at o3
  have x3 := x2.frm f3 hge
  have hz := toBytes_u8s (quoteS s)
  rcases o3.rd with ⟨h1, h2, h3⟩ | ⟨n, off, cp, h1, h2⟩
  · simp [quoteS] at h2
  · subst h1
    rw [Nat.mul_one] at h2
    simp [go_sem, RO.run, h2, hz, x3]

theorem quotes_l0 {l : List UInt8} {v : AV} (hl : l.length ≤ 60) (s : List UInt8) : ∀ (m i : Nat) (O : List UInt8) (e : Env), i + m = l.length → O.length ≤ 1 + i → InL st.h v l → eget e 0 = .str s → eget e 5 = .str O → eget e 28 = v → eget e 29 = .int .i64 l.length → eget e 30 = .int .i64 i →
    Res (run T (.loop B.chaselaw03_LexQuotes_l0) e st) fun x e' s' => x = .exit 0 ∧ s' = st ∧ eget e' 0 = .str s ∧ ∃ O', eget e' 5 = .str O' ∧ O'.length ≤ 61 := by
  intro m
  induction m with
  | zero =>
    intro i O e hi hO hv g0 g5 g28 g29 g30
    have : i = l.length := by omega
    subst this
    rw [run_loop]
    simp [B.chaselaw03_LexQuotes_l0, go_sem, g0, g5, g28, g29, g30]
    omega
  | succ m ih =>
    intro i O e hi hO hv g0 g5 g28 g29 g30
    have hil : (i : Int) < l.length := by omega
    obtain ⟨c, hc, hd⟩ := idx_some (s := l) (i := i) (by omega)
    obtain ⟨n, hvn, hr⟩ := hv.at hc
    have e30 : IntKind.i64.wrap ((i : Int) + 1) = ((i + 1 : Nat) : Int) := wrap64' (by omega) (by omega)
    have ec : IntKind.i64.wrap ((c.toNat : Nat) : Int) = c.toNat := wrap64' (by omega) (by have := c.toNat_lt; omega)
    have hm : (c.toNat : Int).tmod 19 = ((c.toNat % 19 : Nat) : Int) := by rw [Int.tmod_eq_emod_of_nonneg (by omega)]; omega
    have hlt : c.toNat % 19 < 19 := Nat.mod_lt _ (by omega)
    generalize c.toNat % 19 = j at hm hlt
    have ej : IntKind.i64.wrap ((j : Int) + 1) = ((j + 1 : Nat) : Int) := wrap64' (by omega) (by omega)
    obtain ⟨M, hM⟩ : ∃ M : List UInt8, M = [40, 40, 40, 40, 41, 41, 41, 92, 92, 92, 92, 10, 13, 48, 49, 50, 55, 110, 120] := ⟨_, rfl⟩
    have hML : M.length = 19 := by rw [hM]; rfl
    have hsub : asubS M (some (.int .i64 (j : Int))) (some (.int .i64 ((j + 1 : Nat) : Int))) = some (.str ((M.drop j).take 1)) := by
      rw [asubS_some (by omega) (by omega) (by omega)]
      congr 3
      omega
    have hl1 : ((M.drop j).take 1).length = 1 := by rw [List.length_take, List.length_drop]; omega
    generalize (M.drop j).take 1 = Q at hsub hl1
    obtain ⟨j1, hj1⟩ : ∃ j1, j1 = j + 1 := ⟨_, rfl⟩
    rw [← hj1] at ej hsub
    subst hvn
    rw [hM] at hsub
    rw [run_loop]
    simp [B.chaselaw03_LexQuotes_l0, go_sem, g0, g5, g28, g29, g30, hil, RO.run, hr, ec, hm, ej, hsub, hl1]
    rw [if_pos (by omega)]
    simp [go_sem]
    refine ih (i + 1) (O ++ Q) _ (by omega) (by rw [List.length_append]; omega) hv ?_ ?_ ?_ ?_ ?_
    · simp [go_sem]
    · simp [go_sem]
    · simp [go_sem]
    · simp [go_sem]
    · simp [go_sem, e30]

theorem quotes_l1 (H : B.H_chaselaw03_LexQuotes T) {a0 a1 a2 a3 : List UInt8} (h0 : a0.length < 1000000000000) (h1 : a1.length < 1000000000000) (h2 : a2.length < 1000000000000) (h3 : a3.length < 1000000000000) {st0 : St} (hx : Ext st0 st) {e : Env} (g51 : eget e 51 = .agg [.str a0, .str a1, .str a2, .str a3]) (g52 : eget e 52 = .int .i64 0) :
    Res (run T (.loop B.chaselaw03_LexQuotes_l1) e st) fun x e' s' => x = .exit 2 ∧ Ext st0 s' := by
  have w0 : IntKind.i64.wrap 1 = 1 := rfl
  have w1 : IntKind.i64.wrap 2 = 2 := rfl
  have w2 : IntKind.i64.wrap 3 = 3 := rfl
  have w3 : IntKind.i64.wrap 4 = 4 := rfl
  have z := hx
  rw [run_loop]
  simp [B.chaselaw03_LexQuotes_l1, go_sem, g51, g52]
  refine (unquote_tells H.lex_Unquote hx.wf h0).use fun s01 x01 => ?_
  simp [go_sem, toU]
  refine (refUnquote_tells H.chaseref03_Unquote x01.wf h0).use fun s02 x02 => ?_
  simp [go_sem, toU, seq8_eq]
  refine (quote_tells H.lex_Quote x02.wf h0).use fun s03 x03 => ?_
  simp [go_sem]
  refine (refQuote_tells H.chaseref03_Quote x03.wf h0).use fun s04 x04 => ?_
  simp [go_sem, seq8_eq]
  have z0 := (((hx.trans x01).trans x02).trans x03).trans x04
  rw [run_loop]
  simp [B.chaselaw03_LexQuotes_l1, go_sem, w0]
  refine (unquote_tells H.lex_Unquote z0.wf h1).use fun s11 x11 => ?_
  simp [go_sem, toU]
  refine (refUnquote_tells H.chaseref03_Unquote x11.wf h1).use fun s12 x12 => ?_
  simp [go_sem, toU, seq8_eq]
  refine (quote_tells H.lex_Quote x12.wf h1).use fun s13 x13 => ?_
  simp [go_sem]
  refine (refQuote_tells H.chaseref03_Quote x13.wf h1).use fun s14 x14 => ?_
  simp [go_sem, seq8_eq]
  have z1 := (((z0.trans x11).trans x12).trans x13).trans x14
  rw [run_loop]
  simp [B.chaselaw03_LexQuotes_l1, go_sem, w1]
  refine (unquote_tells H.lex_Unquote z1.wf h2).use fun s21 x21 => ?_
  simp [go_sem, toU]
  refine (refUnquote_tells H.chaseref03_Unquote x21.wf h2).use fun s22 x22 => ?_
  simp [go_sem, toU, seq8_eq]
  refine (quote_tells H.lex_Quote x22.wf h2).use fun s23 x23 => ?_
  simp [go_sem]
  refine (refQuote_tells H.chaseref03_Quote x23.wf h2).use fun s24 x24 => ?_
  simp [go_sem, seq8_eq]
  have z2 := (((z1.trans x21).trans x22).trans x23).trans x24
  rw [run_loop]
  simp [B.chaselaw03_LexQuotes_l1, go_sem, w2]
  refine (unquote_tells H.lex_Unquote z2.wf h3).use fun s31 x31 => ?_
  simp [go_sem, toU]
  refine (refUnquote_tells H.chaseref03_Unquote x31.wf h3).use fun s32 x32 => ?_
  simp [go_sem, toU, seq8_eq]
  refine (quote_tells H.lex_Quote x32.wf h3).use fun s33 x33 => ?_
  simp [go_sem]
  refine (refQuote_tells H.chaseref03_Quote x33.wf h3).use fun s34 x34 => ?_
  simp [go_sem, seq8_eq]
  have z3 := (((z2.trans x31).trans x32).trans x33).trans x34
  rw [run_loop]
  simp [B.chaselaw03_LexQuotes_l1, go_sem, w3]
  exact z3

theorem quotes_tells (H : B.H_chaselaw03_LexQuotes T) (hwf : st.Wf) {s : List UInt8} (hs : s.length ≤ 140737488351232) {v : AV} {l : List UInt8} (hv : InL st.h v l) (hl : l.length < 9223372036854775808) : Tells T st (.fn 59 [] []) [.str s, v] (.bool true) := by
  refine tells_of H.e H.f rfl ?_
  simp [B.chaselaw03_LexQuotes, go_sem]
  refine (works_tells H.chaselaw03_works hwf).use fun s1 x1 => ?_
  obtain ⟨ks, hks⟩ : ∃ ks, ks = min s.length 1200 := ⟨_, rfl⟩
  have hmins : (if (1200 : Int) < (s.length : Int) then 1200 else (s.length : Int)) = (ks : Int) := by rw [hks]; split <;> omega
  have hsubs : asubS s none (some (.int .i64 (ks : Int))) = some (.str (s.take ks)) := by
    rw [asubS_to (by omega) (by omega)]; simp
  have hsl : (s.take ks).length ≤ 1200 := by rw [List.length_take]; omega
  generalize s.take ks = S at hsubs hsl
  simp [go_sem, hmins, hsubs]
  rcases hv with ⟨rfl, rfl⟩ | ⟨n, full, rfl, h2, h3⟩
  · simp [go_sem, asubL, abounds, bnd, abound, topOf, subCap]
    refine (quotes_l0 (l := []) (v := .nilslice) (by simp) S 0 0 [40] _ (by simp) (by simp) (.inl ⟨rfl, rfl⟩) (by simp [go_sem]) (by simp [go_sem]) (by simp [go_sem]) (by simp [go_sem]) (by simp [go_sem])).mono ?_
    rintro x e s2 ⟨rfl, rfl, g0, O, g5, hO⟩
    simp [go_sem, g0, g5]
    rw [if_pos (by omega)]
    simp [go_sem]
    rw [if_pos (by omega)]
    simp [go_sem]
    rw [if_pos (by omega)]
    simp [go_sem]
    refine (quotes_l1 H (a0 := S) (a1 := 40 :: (S ++ [41])) (a2 := O) (a3 := O ++ [41, 41, 41, 41, 41, 41, 41]) (by omega) (by simp; omega) (by omega) (by simp; omega) x1 (by simp [go_sem]) (by simp [go_sem])).mono ?_
    rintro x e s3 ⟨rfl, x3⟩
    simp [go_sem, x3]
  · obtain ⟨k, hk⟩ : ∃ k, k = min l.length 60 := ⟨_, rfl⟩
    have hmin : (if (60 : Int) < (l.length : Int) then 60 else (l.length : Int)) = (k : Int) := by rw [hk]; split <;> omega
    have hle : l.length ≤ full.length := by
      have := congrArg List.length h3
      rw [List.length_take] at this; omega
    have hk2 : (l.take k).length = k := by rw [List.length_take]; omega
    have hv2 : InL s1.h (.slice n 0 k .unk) (l.take k) := .inr ⟨n, full, by rw [hk2], x1.get hwf h2, by rw [hk2]; conv => lhs; rw [h3]; rw [List.take_take, Nat.min_eq_left (by omega)]⟩
    have hsub : asubL 1 n 0 l.length .unk none (some (.int .i64 (k : Int))) none = some (.slice n 0 k .unk) := by
      simp only [asubL]
      rw [abounds_hi (by omega) (show (k : Int) ≤ (topOf l.length .unk : Nat) by show (k : Int) ≤ (l.length : Nat); omega)]
      simp [subCap]
    simp [go_sem, hmin, hsub]
    refine (quotes_l0 (l := l.take k) (v := .slice n 0 k .unk) (by omega) S k 0 [40] _ (by omega) (by simp) hv2 (by simp [go_sem]) (by simp [go_sem]) (by simp [go_sem]) (by simp [go_sem, hk2]) (by simp [go_sem])).mono ?_
    rintro x e s2 ⟨rfl, rfl, g0, O, g5, hO⟩
    simp [go_sem, g0, g5]
    rw [if_pos (by omega)]
    simp [go_sem]
    rw [if_pos (by omega)]
    simp [go_sem]
    rw [if_pos (by omega)]
    simp [go_sem]
    refine (quotes_l1 H (a0 := S) (a1 := 40 :: (S ++ [41])) (a2 := O) (a3 := O ++ [41, 41, 41, 41, 41, 41, 41]) (by omega) (by simp; omega) (by omega) (by simp; omega) x1 (by simp [go_sem]) (by simp [go_sem])).mono ?_
    rintro x e s3 ⟨rfl, x3⟩
    simp [go_sem, x3]
end Go.Ev

/- The reference's reader of decimals. -/
namespace Go.Ev
open Go
set_option linter.unusedSimpArgs false
set_option linter.unusedSectionVars false
set_option linter.unusedVariables false

variable {T : Tab} {st : St}

def i64s (l : List Nat) : List AV := l.map fun n => .int .i64 ((n : Nat) : Int)
theorem i64s_len (l : List Nat) : (i64s l).length = l.length := by simp [i64s]
theorem i64s_snoc (l : List Nat) (n : Nat) : i64s (l ++ [n]) = i64s l ++ [.int .i64 (n : Int)] := by simp [i64s]

theorem digit102_tells (H : B.H_chaseref01_digit T) (hwf : st.Wf) (c : UInt8) : Tells T st (.fn 102 [] []) [.int .u8 (c.toNat : Int)] (.bool (isDig c)) := by
  refine tells_of H.e H.f rfl ?_
  by_cases h : 48 ≤ c.toNat
  · simp [B.chaseref01_digit, go_sem, h, show (48 : Int) ≤ c.toNat by omega, isDig, Ext.refl hwf]
    omega
  · simp [B.chaseref01_digit, go_sem, h, show ¬ (48 : Int) ≤ c.toNat by omega, isDig, Ext.refl hwf]

/-- The digits of a mantissa, how many of them lie behind the point, and what is left. -/
def mant : Bool → List UInt8 → List Nat × Nat × List UInt8
  | _, [] => ([], 0, [])
  | pt, c :: r =>
    if isDig c = true then ((c.toNat - 48) :: (mant pt r).1, (if pt = true then 1 else 0) + (mant pt r).2.1, (mant pt r).2.2)
    else if c = 46 ∧ pt = false then mant true r
    else ([], 0, c :: r)

theorem mant_len : ∀ (pt : Bool) (r : List UInt8), (mant pt r).1.length + (mant pt r).2.2.length ≤ r.length ∧ (mant pt r).2.1 ≤ (mant pt r).1.length
  | _, [] => by simp [mant]
  | pt, c :: r => by
    have h1 := mant_len pt r
    have h2 := mant_len true r
    simp only [mant]
    split
    · simp only [List.length_cons]; split <;> omega
    · split
      · simp only [List.length_cons]; omega
      · simp

theorem read_l0 (H : B.H_chaseref01_Read T) {s : List UInt8} (hs : s.length < 1000000000000) (sg : Int) (st0 : St) : ∀ (m i : Nat) (l : List Nat) (ex : Int) (pt : Bool) (e : Env) (st1 : St) (v : AV), i + m = s.length → l.length ≤ i → -(i : Int) ≤ ex → ex ≤ 0 → Ext st0 st1 → Sl st1 v 3 1 l.length (i64s l) → Mine [] st0 v → eget e 0 = .str s → eget e 6 = .int .i64 i → eget e 7 = .int .i64 sg → eget e 8 = v → eget e 9 = .int .i64 ex → eget e 10 = .bool pt →
    Res (run T (.loop B.chaseref01_Read_l0) e st1) fun x e' s' => x = .exit 0 ∧ Ext st0 s' ∧ eget e' 0 = .str s ∧ eget e' 6 = .int .i64 ((s.length - (mant pt (s.drop i)).2.2.length : Nat) : Int) ∧ eget e' 7 = .int .i64 sg ∧ Sl s' (eget e' 8) 3 1 (l ++ (mant pt (s.drop i)).1).length (i64s (l ++ (mant pt (s.drop i)).1)) ∧ Mine [] st0 (eget e' 8) ∧ eget e' 9 = .int .i64 (ex - ((mant pt (s.drop i)).2.1 : Nat)) := by
  intro m
  induction m with
  | zero =>
    intro i l ex pt e st1 v hi hl hx1 hx2 hx hv hm g0 g6 g7 g8 g9 g10
    have : i = s.length := by omega
    subst this
    have hd : s.drop s.length = [] := by simp
    rw [hd, run_loop]
    simp [B.chaseref01_Read_l0, go_sem, g0, g6, g7, g8, g9, g10, mant, hx, hv, hm]
  | succ m ih =>
    intro i l ex pt e st1 v hi hl hx1 hx2 hx hv hm g0 g6 g7 g8 g9 g10
    have hil : (i : Int) < s.length := by omega
    obtain ⟨c, hc, hd⟩ := idx_some (s := s) (i := i) (by omega)
    have e6 : IntKind.i64.wrap ((i : Int) + 1) = ((i + 1 : Nat) : Int) := wrap64' (by omega) (by omega)
    have hge : ∀ n ∈ v.nms, st0.nx ≤ n := fun n hn => by
      rcases hm n hn with h | h
      · cases h
      · exact h
    have hml := mant_len pt (s.drop i)
    have hstop : s.length - (c :: s.drop (i + 1)).length = i := by simp only [List.length_cons, List.length_drop]; omega
    rw [run_loop]
    simp [B.chaseref01_Read_l0, go_sem, g0, g6, g7, g8, g9, g10, hil, hc]
    refine (digit102_tells H.chaseref01_digit hx.wf c).use fun s1 x1' => ?_
    have x1 := hx.trans x1'
    have hv1 := hv.ext x1' hx.wf
    by_cases hdg : isDig c = true
    · have hd2 : 48 ≤ c.toNat ∧ c.toNat ≤ 57 := by simpa [isDig] using hdg
      have n46 : ¬ (c.toNat : Int) = 46 := by omega
      have m46 : ¬ c.toNat = 46 := by omega
      have e1 : IntKind.u8.wrap ((c.toNat : Int) - 48) = ((c.toNat - 48 : Nat) : Int) := by
        rw [wrap_u8 (by omega) (by have := c.toNat_lt; omega)]; omega
      have e2 : IntKind.i64.wrap ((c.toNat - 48 : Nat) : Int) = ((c.toNat - 48 : Nat) : Int) := wrap64' (by omega) (by omega)
      have hmt : mant pt (s.drop i) = ((c.toNat - 48) :: (mant pt (s.drop (i + 1))).1, (if pt = true then 1 else 0) + (mant pt (s.drop (i + 1))).2.1, (mant pt (s.drop (i + 1))).2.2) := by rw [hd]; simp [mant, hdg]
      simp [go_sem, hdg, hc, n46, m46, e1, e2, NO.run, reps]
      refine Sl.push (st0 := st0) (S := []) (x1.fr []) hm hv1 (y := .int .i64 ((c.toNat - 48 : Nat) : Int)) rfl (by omega) (by omega) ?_
      intro v2 s2 o2 f2 m2 _
      have x2 : Ext st0 s2 := f2.ext (by simp)
      rw [hmt]
      cases pt with
      | false =>
        simp [go_sem]
        refine (ih (i + 1) (l ++ [c.toNat - 48]) ex false _ s2 v2 (by omega) (by simp; omega) (by omega) hx2 x2 (by rw [i64s_snoc]; simpa using o2) m2 (by simp [go_sem]) (by simp [go_sem, e6]) (by simp [go_sem]) (by simp [go_sem]) (by simp [go_sem]) (by simp [go_sem])).mono ?_
        rintro x e s h
        simpa using h
      | true =>
        have e9 : IntKind.i64.wrap (ex - 1) = ex - 1 := wrap64' (by omega) (by omega)
        simp [go_sem]
        refine (ih (i + 1) (l ++ [c.toNat - 48]) (ex - 1) true _ s2 v2 (by omega) (by simp; omega) (by omega) (by omega) x2 (by rw [i64s_snoc]; simpa using o2) m2 (by simp [go_sem]) (by simp [go_sem, e6]) (by simp [go_sem]) (by simp [go_sem]) (by simp [go_sem, e9]) (by simp [go_sem])).mono ?_
        rintro x e s ⟨a1, a2, a3, a4, a5, a6, a7, a8⟩
        refine ⟨by simpa using a1, by simpa using a2, by simpa using a3, by simpa using a4, by simpa using a5, by simpa using a6, by simpa using a7, ?_⟩
        rw [a8]
        congr 1
        omega
    · have hdf : isDig c = false := by simpa using hdg
      by_cases h46 : c = 46 ∧ pt = false
      · obtain ⟨rfl, rfl⟩ := h46
        have hmt : mant false (s.drop i) = mant true (s.drop (i + 1)) := by rw [hd]; simp [mant, isDig]
        simp [go_sem, hdf, hc]
        rw [hmt]
        refine (ih (i + 1) l ex true _ s1 v (by omega) (by omega) (by omega) hx2 x1 hv1 hm (by simp [go_sem]) (by simp [go_sem, e6]) (by simp [go_sem]) (by simp [go_sem]) (by simp [go_sem]) (by simp [go_sem])).mono fun x e s h => by simpa using h
      · have hmt : mant pt (s.drop i) = ([], 0, c :: s.drop (i + 1)) := by rw [hd]; simp [mant, hdf, h46]
        rw [hmt, hstop]
        by_cases hc46 : c = 46
        · subst hc46
          have hpt : pt = true := by cases pt <;> simp at h46 ⊢
          subst hpt
          simp [go_sem, hdf, hc, x1, hv1, hm]
        · have n46 : ¬ (c.toNat : Int) = 46 := u8_ne hc46 rfl
          have m46 : ¬ c.toNat = 46 := by omega
          simp [go_sem, hdf, hc, n46, m46, x1, hv1, hm]

theorem read_l1 (H : B.H_chaseref01_Read T) {s : List UInt8} (hs : s.length < 1000000000000) (sg ex : Int) (v : AV) (b : Bool) (st0 : St) : ∀ (m i n : Nat) (e : Env) (st1 : St), i + m = s.length → m ≤ 3 → n < 1000 * 10 ^ (3 - m) → Ext st0 st1 → eget e 0 = .str s → eget e 6 = .int .i64 i → eget e 7 = .int .i64 sg → eget e 8 = v → eget e 9 = .int .i64 ex → eget e 11 = .bool b → eget e 12 = .int .i64 n →
    Res (run T (.loop B.chaseref01_Read_l1) e st1) fun x e' s' => Ext st0 s' ∧
      if (spanD (s.drop i)).2 = [] then x = .exit 2 ∧ eget e' 7 = .int .i64 sg ∧ eget e' 8 = v ∧ eget e' 9 = .int .i64 ex ∧ eget e' 11 = .bool b ∧ eget e' 12 = .int .i64 (((spanD (s.drop i)).1.foldl (fun a d => 10 * a + d) n : Nat) : Int)
      else x = .ret ∧ eget e' 2 = .int .i64 0 ∧ eget e' 3 = .nilslice ∧ eget e' 4 = .int .i64 0 ∧ eget e' 5 = .bool false := by
  intro m
  induction m with
  | zero =>
    intro i n e st1 hi hm hn hx g0 g6 g7 g8 g9 g11 g12
    have : i = s.length := by omega
    subst this
    have hd : s.drop s.length = [] := by simp
    rw [hd, run_loop]
    simp [B.chaseref01_Read_l1, go_sem, g0, g6, g7, g8, g9, g11, g12, spanD, hx]
  | succ m ih =>
    intro i n e st1 hi hm hn hx g0 g6 g7 g8 g9 g11 g12
    have hil : (i : Int) < s.length := by omega
    obtain ⟨c, hc, hd⟩ := idx_some (s := s) (i := i) (by omega)
    have e6 : IntKind.i64.wrap ((i : Int) + 1) = ((i + 1 : Nat) : Int) := wrap64' (by omega) (by omega)
    have hn' : n < 1000000 := Nat.lt_of_lt_of_le hn (by
      have : 10 ^ (3 - (m + 1)) ≤ 10 ^ 3 := Nat.pow_le_pow_right (by omega) (by omega)
      omega)
    rw [run_loop]
    simp [B.chaseref01_Read_l1, go_sem, g0, g6, g7, g8, g9, g11, g12, hil, hc]
    refine (digit102_tells H.chaseref01_digit hx.wf c).use fun s1 x1' => ?_
    have x1 := hx.trans x1'
    by_cases hdg : isDig c = true
    · have hd2 : 48 ≤ c.toNat ∧ c.toNat ≤ 57 := by simpa [isDig] using hdg
      have e1 : IntKind.u8.wrap ((c.toNat : Int) - 48) = ((c.toNat - 48 : Nat) : Int) := by
        rw [wrap_u8 (by omega) (by have := c.toNat_lt; omega)]; omega
      have e2 : IntKind.i64.wrap ((c.toNat - 48 : Nat) : Int) = ((c.toNat - 48 : Nat) : Int) := wrap64' (by omega) (by omega)
      have e3 : IntKind.i64.wrap (10 * (n : Int)) = 10 * n := wrap64' (by omega) (by omega)
      have e4 : IntKind.i64.wrap (10 * (n : Int) + ((c.toNat - 48 : Nat) : Int)) = ((10 * n + (c.toNat - 48) : Nat) : Int) := by rw [wrap64' (by omega) (by omega)]; omega
      have hsp : spanD (s.drop i) = ((c.toNat - 48) :: (spanD (s.drop (i + 1))).1, (spanD (s.drop (i + 1))).2) := by rw [hd]; simp [spanD, hd2]
      rw [hsp]
      simp [go_sem, hdg, hc, e1, e2, e3, e4]
      refine (ih (i + 1) (10 * n + (c.toNat - 48)) _ s1 (by omega) (by omega) ?_ x1 (by simp [go_sem]) (by simp [go_sem, e6]) (by simp [go_sem]) (by simp [go_sem]) (by simp [go_sem]) (by simp [go_sem]) (by simp [go_sem, e4])).mono fun x e s h => by simpa using h
      have h3 : 3 - m = (3 - (m + 1)) + 1 := by omega
      have hp : 0 < 10 ^ (3 - (m + 1)) := Nat.pow_pos (by omega)
      rw [h3, Nat.pow_succ]
      omega
    · have hdf : isDig c = false := by simpa using hdg
      have hd2 : ¬ (48 ≤ c.toNat ∧ c.toNat ≤ 57) := by simpa [isDig] using hdg
      have hsp : spanD (s.drop i) = ([], c :: s.drop (i + 1)) := by rw [hd]; simp [spanD, hd2]
      rw [hsp]
      simp [go_sem, hdf, x1]
end Go.Ev

/- The reference's Read told. -/
namespace Go.Ev
open Go
set_option linter.unusedSimpArgs false
set_option linter.unusedSectionVars false
set_option linter.unusedVariables false

variable {T : Tab} {st : St}

/-- The parts of a code. -/
def MCode.a : MCode → MCode
  | .seq x _ => x
  | c => c
def MCode.b : MCode → MCode
  | .seq _ y => y
  | c => c
theorem ab_seq (x y : MCode) : (MCode.seq x y).a = x ∧ (MCode.seq x y).b = y := ⟨rfl, rfl⟩

theorem sgn_drop (s : List UInt8) : (sgn s).2 = s.drop (s.length - (sgn s).2.length) ∧ (sgn s).2.length ≤ s.length ∧ s.length ≤ (sgn s).2.length + 1 := by
  cases s with
  | nil => simp [sgn]
  | cons c r =>
    simp only [sgn]
    split
    · simp
    · split <;> simp

/-- What Read answers: is it negative, the digits, and the last one's exponent. -/
def readR (s : List UInt8) : Option (Bool × List Nat × Int) :=
  let m := mant false (sgn s).2
  if m.1 = [] then none
  else match m.2.2 with
    | [] => some ((sgn s).1, m.1, -(m.2.1 : Int))
    | c :: t =>
      if c ≠ 101 ∧ c ≠ 69 then none
      else if (sgn t).2.length < 1 ∨ 3 < (sgn t).2.length then none
      else if (spanD (sgn t).2).2 = [] then some ((sgn s).1, m.1, -(m.2.1 : Int) + (if (sgn t).1 = true then -(numD (spanD (sgn t).2).1 : Int) else (numD (spanD (sgn t).2).1 : Int)))
      else none

def sgnI (b : Bool) : Int := if b = true then -1 else 1

/-- The body of Read behind its first k parts. -/
def rb : Nat → MCode
  | 0 => B.chaseref01_Read.body
  | k + 1 => (rb k).b
theorem cut {T : Tab} {c : MCode} (hc : c = .seq c.a c.b) (hA : ∀ l, c.a ≠ .keep l) {e : Env} {Q : Ex → Env → St → Prop} (P : Ex → Env → St → Prop) (h1 : Res (run T c.a e st) P) (h2 : ∀ x e s, P x e s → kSeq T c.b Q x e s) : Res (run T c e st) Q := by
  rw [hc]
  exact seq_cut P hA h1 h2

theorem read_sign {s : List UInt8} (hs : s.length < 1000000000000) {e : Env} (g0 : eget e 0 = .str s) (g6 : eget e 6 = .int .i64 0) (g7 : eget e 7 = .int .i64 1) :
    Res (run T (rb 2).a e st) fun x e' s' => x = .norm ∧ s' = st ∧ eget e' 0 = .str s ∧ eget e' 6 = .int .i64 ((s.length - (sgn s).2.length : Nat) : Int) ∧ eget e' 7 = .int .i64 (sgnI (sgn s).1) := by
  simp only [rb, B.chaseref01_Read, ab_seq]
  cases s with
  | nil => simp [go_sem, g0, g6, g7, sgn, sgnI]
  | cons c r =>
    by_cases h43 : c = 43
    · subst h43
      simp [go_sem, g0, g6, g7, sgn, sgnI]
      rfl
    · by_cases h45 : c = 45
      · subst h45
        simp [go_sem, g0, g6, g7, sgn, sgnI]
        rfl
      · have n1 : ¬ (c.toNat : Int) = 43 := u8_ne h43 rfl
        have n2 : ¬ (c.toNat : Int) = 45 := u8_ne h45 rfl
        have m1 : ¬ c.toNat = 43 := by omega
        have m2 : ¬ c.toNat = 45 := by omega
        simp [go_sem, g0, g6, g7, sgn, sgnI, h43, h45, n1, n2, m1, m2]

/-- The exponent's sign. -/
theorem read_sign2 {s t : List UInt8} {i : Nat} (hs : s.length < 1000000000000) (hi : i ≤ s.length) (ht : s.drop i = t) {e : Env} {sg ex : Int} {v : AV} (g0 : eget e 0 = .str s) (g6 : eget e 6 = .int .i64 i) (g7 : eget e 7 = .int .i64 sg) (g8 : eget e 8 = v) (g9 : eget e 9 = .int .i64 ex) (g11 : eget e 11 = .bool false) :
    Res (run T (rb 15).a e st) fun x e' s' => x = .norm ∧ s' = st ∧ eget e' 0 = .str s ∧ eget e' 6 = .int .i64 ((s.length - (sgn t).2.length : Nat) : Int) ∧ eget e' 7 = .int .i64 sg ∧ eget e' 8 = v ∧ eget e' 9 = .int .i64 ex ∧ eget e' 11 = .bool (sgn t).1 := by
  simp only [rb, B.chaseref01_Read, ab_seq]
  have hl := congrArg List.length ht
  rw [List.length_drop] at hl
  cases t with
  | nil =>
    have : i = s.length := by simp at hl; omega
    subst this
    simp [go_sem, g0, g6, g7, g8, g9, g11, sgn]
  | cons c r =>
    simp only [List.length_cons] at hl
    have hil : i < s.length := by omega
    have hil' : (i : Int) < s.length := by omega
    obtain ⟨c', hc, hd⟩ := idx_some hil
    rw [ht] at hd
    injection hd with h1 h2
    subst h1
    have e6 : IntKind.i64.wrap ((i : Int) + 1) = ((i + 1 : Nat) : Int) := wrap64' (by omega) (by omega)
    have e7 : s.length - r.length = i + 1 := by omega
    have e8 : s.length - (c :: r).length = i := by simp only [List.length_cons]; omega
    by_cases h43 : c = 43
    · subst h43
      simp [go_sem, g0, g6, g7, g8, g9, g11, sgn, hil', hc, e7]
      exact e6
    · by_cases h45 : c = 45
      · subst h45
        simp [go_sem, g0, g6, g7, g8, g9, g11, sgn, hil', hc, e7]
        exact e6
      · have n1 : ¬ (c.toNat : Int) = 43 := u8_ne h43 rfl
        have n2 : ¬ (c.toNat : Int) = 45 := u8_ne h45 rfl
        have m1 : ¬ c.toNat = 43 := by omega
        have m2 : ¬ c.toNat = 45 := by omega
        simp only [List.length_cons] at e8
        simp [go_sem, g0, g6, g7, g8, g9, g11, sgn, h43, h45, n1, n2, m1, m2, hil', hc, e8]

/-- What Read leaves. -/
def ReadQ (st : St) (U : Option (Bool × List Nat × Int)) (x : Ex) (e' : Env) (s' : St) : Prop :=
  (x = .norm ∨ x = .ret) ∧ Ext st s' ∧ match U with
    | none => eget e' 2 = .int .i64 0 ∧ eget e' 3 = .nilslice ∧ eget e' 4 = .int .i64 0 ∧ eget e' 5 = .bool false
    | some (neg, l, ex) => eget e' 2 = .int .i64 (sgnI neg) ∧ Sl s' (eget e' 3) 3 1 l.length (i64s l) ∧ eget e' 4 = .int .i64 ex ∧ eget e' 5 = .bool true

theorem read_end (H : B.H_chaseref01_Read T) {s u : List UInt8} {i : Nat} (hs : s.length < 1000000000000) (hi : i ≤ s.length) (hu : s.drop i = u) {e : Env} {neg b : Bool} {ex : Int} {l : List Nat} {v : AV} {st0 : St} (hx : Ext st0 st) (hv : Sl st v 3 1 l.length (i64s l)) (hex : -1000000000000 ≤ ex ∧ ex ≤ 0)
    (g0 : eget e 0 = .str s) (g6 : eget e 6 = .int .i64 i) (g7 : eget e 7 = .int .i64 (sgnI neg)) (g8 : eget e 8 = v) (g9 : eget e 9 = .int .i64 ex) (g11 : eget e 11 = .bool b) :
    Res (run T (rb 16) e st) (ReadQ st0 (if u.length < 1 ∨ 3 < u.length then none else if (spanD u).2 = [] then some (neg, l, ex + (if b = true then -(numD (spanD u).1 : Int) else (numD (spanD u).1 : Int))) else none)) := by
  have hl := congrArg List.length hu
  rw [List.length_drop] at hl
  have ew : IntKind.i64.wrap ((s.length : Int) - i) = (u.length : Int) := by rw [wrap64' (by omega) (by omega)]; omega
  simp only [rb, B.chaseref01_Read, ab_seq]
  by_cases h1 : u.length < 1
  · rw [if_pos (.inl h1)]
    have h1' : (u.length : Int) < 1 := by omega
    simp [go_sem, g0, g6, g7, g8, g9, g11, ew, h1', ReadQ, hx]
  have h1' : ¬ (u.length : Int) < 1 := by omega
  by_cases h3 : 3 < u.length
  · rw [if_pos (.inr h3)]
    have h3' : (3 : Int) < u.length := by omega
    simp [go_sem, g0, g6, g7, g8, g9, g11, ew, h1', h3', ReadQ, hx]
  have h3' : ¬ (3 : Int) < u.length := by omega
  rw [if_neg (by omega)]
  have hnb : numD (spanD u).1 < 1000 := by
    have hlu := spanD_len u
    refine Nat.lt_of_lt_of_le (numD_lt (fun d hd => spanD_lt _ d hd)) ?_
    exact Nat.le_trans (Nat.pow_le_pow_right (by omega) (show _ ≤ 3 by omega)) (by omega)
  have hfo : (spanD u).1.foldl (fun a d => 10 * a + d) 0 = numD (spanD u).1 := rfl
  simp [go_sem, g0, g6, g7, g8, g9, g11, ew, h1', h3']
  refine (read_l1 H hs (sgnI neg) ex v b st u.length i 0 _ st (by omega) (by omega) (Nat.mul_pos (by omega) (Nat.pow_pos (by omega))) (.refl hx.wf) (by simp [go_sem]) (by simp [go_sem]) (by simp [go_sem]) (by simp [go_sem]) (by simp [go_sem]) (by simp [go_sem]) (by simp [go_sem])).mono ?_
  rw [hu, hfo]
  rintro x e' s' ⟨x1', hh⟩
  have x1 := hx.trans x1'
  have hv1 := hv.ext x1' hx.wf
  generalize numD (spanD u).1 = N at hh hnb ⊢
  by_cases hz : (spanD u).2 = []
  · rw [if_pos hz] at hh
    obtain ⟨rfl, k7, k8, k9, k11, k12⟩ := hh
    rw [if_pos hz]
    have en : IntKind.i64.wrap (-(N : Int)) = -N := wrap64' (by omega) (by omega)
    have ea : IntKind.i64.wrap (ex + -(N : Int)) = ex + -N := wrap64' (by omega) (by omega)
    have eb : IntKind.i64.wrap (ex + (N : Int)) = ex + N := wrap64' (by omega) (by omega)
    cases b with
    | true => simp [go_sem, ReadQ, k7, k8, k9, k11, k12, x1, en, ea, hv1]
    | false => simp [go_sem, ReadQ, k7, k8, k9, k11, k12, x1, eb, hv1]
  · rw [if_neg hz] at hh
    obtain ⟨rfl, k2, k3, k4, k5⟩ := hh
    rw [if_neg hz]
    simp [go_sem, ReadQ, k2, k3, k4, k5, x1]

def E5 (s : List UInt8) (i : Nat) (sg : Int) (v : AV) (ex : Int) (e : Env) : Prop := eget e 0 = .str s ∧ eget e 6 = .int .i64 i ∧ eget e 7 = .int .i64 sg ∧ eget e 8 = v ∧ eget e 9 = .int .i64 ex

def midS (neg : Bool) (l : List Nat) (ex : Int) : List UInt8 → Option (Bool × List Nat × Int)
  | [] => some (neg, l, ex)
  | c :: t => if c ≠ 101 ∧ c ≠ 69 then none
    else if (sgn t).2.length < 1 ∨ 3 < (sgn t).2.length then none
    else if (spanD (sgn t).2).2 = [] then some (neg, l, ex + (if (sgn t).1 = true then -(numD (spanD (sgn t).2).1 : Int) else (numD (spanD (sgn t).2).1 : Int)))
    else none

theorem read_mid (H : B.H_chaseref01_Read T) {s : List UInt8} {i : Nat} (hs : s.length < 1000000000000) (hi : i ≤ s.length) {e : Env} {neg : Bool} {ex : Int} {l : List Nat} {n : Nat} {cp : Cap} {st0 : St} (hx : Ext st0 st) (hv : Sl st (.slice n 0 l.length cp) 3 1 l.length (i64s l)) (hex : -1000000000000 ≤ ex ∧ ex ≤ 0)
    (h5 : E5 s i (sgnI neg) (.slice n 0 l.length cp) ex e) :
    Res (run T (rb 8) e st) (ReadQ st0 (if l = [] then none else midS neg l ex (s.drop i))) := by
  obtain ⟨g0, g6, g7, g8, g9⟩ := id h5
  by_cases hl : l = []
  · subst hl
    simp only [rb, B.chaseref01_Read, ab_seq]
    simp [go_sem, g0, g6, g7, g8, g9, ReadQ, hx]
  rw [if_neg hl]
  have hlen : ¬ l.length = 0 := fun h => hl (List.length_eq_zero_iff.1 h)
  have hlen' : ¬ (l.length : Int) = 0 := by omega
  refine cut (c := rb 8) rfl (by intro l; simp [rb, B.chaseref01_Read, ab_seq]) (fun x e' s' => x = .norm ∧ s' = st ∧ E5 s i (sgnI neg) (.slice n 0 l.length cp) ex e') ?_ ?_
  · simp only [rb, B.chaseref01_Read, ab_seq]
    simp [go_sem, g0, g6, g7, g8, g9, hlen, hlen', E5]
  rintro _ e1 s1 ⟨rfl, hst, h51⟩
  rw [kSeq_norm, hst]
  clear hst
  clear g0 g6 g7 g8 g9
  obtain ⟨g0, g6, g7, g8, g9⟩ := id h51
  by_cases hil : i = s.length
  · subst hil
    have hd : s.drop s.length = [] := by simp
    rw [hd]
    show Res (run T (rb 9) e1 _) _
    simp only [rb, B.chaseref01_Read, ab_seq]
    simp [go_sem, g0, g6, g7, g8, g9, midS, ReadQ, hx, hv]
  have hil1 : i < s.length := by omega
  have hil2 : ¬ (i : Int) = s.length := by omega
  obtain ⟨c, hc, hd⟩ := idx_some hil1
  refine cut (c := rb 9) rfl (by intro l; simp [rb, B.chaseref01_Read, ab_seq]) (fun x e' s' => x = .norm ∧ s' = st ∧ E5 s i (sgnI neg) (.slice n 0 l.length cp) ex e') ?_ ?_
  · simp only [rb, B.chaseref01_Read, ab_seq]
    simp [go_sem, g0, g6, g7, g8, g9, hil, hil2, E5]
  rintro _ e2 s2 ⟨rfl, hst, h52⟩
  rw [kSeq_norm, hst]
  clear hst g0 g6 g7 g8 g9
  obtain ⟨g0, g6, g7, g8, g9⟩ := id h52
  show Res (run T (.seq (.keep [0, 6, 7, 8, 9]) (rb 11)) e2 st) _
  rw [run_keep]
  have h53 : E5 s i (sgnI neg) (.slice n 0 l.length cp) ex (keepE [0, 6, 7, 8, 9] e2) := by simp [E5, keepE, eget, g0, g6, g7, g8, g9]
  generalize keepE [0, 6, 7, 8, 9] e2 = e3 at h53
  clear g0 g6 g7 g8 g9
  obtain ⟨g0, g6, g7, g8, g9⟩ := id h53
  have hil3 : (i : Int) < s.length := by omega
  rw [hd]
  by_cases hE : c ≠ 101 ∧ c ≠ 69
  · have n1 : ¬ (c.toNat : Int) = 101 := u8_ne hE.1 rfl
    have n2 : ¬ (c.toNat : Int) = 69 := u8_ne hE.2 rfl
    have m1 : ¬ c.toNat = 101 := by omega
    have m2 : ¬ c.toNat = 69 := by omega
    simp only [midS]
    rw [if_pos hE]
    simp only [rb, B.chaseref01_Read, ab_seq]
    simp [go_sem, g0, g6, g7, g8, g9, hc, n1, n2, m1, m2, ReadQ, hx]
  simp only [midS]
  rw [if_neg hE]
  refine cut (c := rb 11) rfl (by intro l; simp [rb, B.chaseref01_Read, ab_seq]) (fun x e' s' => x = .norm ∧ s' = st ∧ E5 s i (sgnI neg) (.slice n 0 l.length cp) ex e') ?_ ?_
  · have hcn : (c.toNat : Int) = 101 ∨ (c.toNat : Int) = 69 := by
      by_cases h : c = 101
      · subst h; simp
      · by_cases h' : c = 69
        · subst h'; simp
        · exact absurd ⟨h, h'⟩ hE
    obtain ⟨nn, hnn⟩ : ∃ nn : Int, nn = c.toNat := ⟨_, rfl⟩
    rw [← hnn] at hcn
    simp only [rb, B.chaseref01_Read, ab_seq]
    rcases hcn with rfl | rfl
    · simp [go_sem, g0, g6, g7, g8, g9, hc, ← hnn, E5]
    · simp [go_sem, g0, g6, g7, g8, g9, hc, ← hnn, E5]
  rintro _ e4 s4 ⟨rfl, hst, h54⟩
  rw [kSeq_norm, hst]
  clear hst g0 g6 g7 g8 g9
  obtain ⟨g0, g6, g7, g8, g9⟩ := id h54
  show Res (run T (.seq (.keep [0, 6, 7, 8, 9]) (rb 13)) e4 st) _
  rw [run_keep]
  have h55 : E5 s i (sgnI neg) (.slice n 0 l.length cp) ex (keepE [0, 6, 7, 8, 9] e4) := by simp [E5, keepE, eget, g0, g6, g7, g8, g9]
  generalize keepE [0, 6, 7, 8, 9] e4 = e5 at h55
  clear g0 g6 g7 g8 g9
  obtain ⟨g0, g6, g7, g8, g9⟩ := id h55
  have e6 : IntKind.i64.wrap ((i : Int) + 1) = ((i + 1 : Nat) : Int) := wrap64' (by omega) (by omega)
  refine cut (c := rb 13) rfl (by intro l; simp [rb, B.chaseref01_Read, ab_seq]) (fun x e' s' => x = .norm ∧ s' = st ∧ E5 s (i + 1) (sgnI neg) (.slice n 0 l.length cp) ex e') ?_ ?_
  · simp only [rb, B.chaseref01_Read, ab_seq]
    simp [go_sem, g0, g6, g7, g8, g9, E5, e6]
  rintro _ e6' s6 ⟨rfl, hst, h56⟩
  rw [kSeq_norm, hst]
  clear hst g0 g6 g7 g8 g9 e6
  obtain ⟨g0, g6, g7, g8, g9⟩ := id h56
  refine cut (c := rb 14) rfl (by intro l; simp [rb, B.chaseref01_Read, ab_seq]) (fun x e' s' => x = .norm ∧ s' = st ∧ E5 s (i + 1) (sgnI neg) (.slice n 0 l.length cp) ex e' ∧ eget e' 11 = .bool false) ?_ ?_
  · simp only [rb, B.chaseref01_Read, ab_seq]
    simp [go_sem, g0, g6, g7, g8, g9, E5]
  rintro _ e7 s7 ⟨rfl, hst, h57, g11⟩
  rw [kSeq_norm, hst]
  clear hst g0 g6 g7 g8 g9
  obtain ⟨g0, g6, g7, g8, g9⟩ := id h57
  refine cut (c := rb 15) rfl (by intro l; simp [rb, B.chaseref01_Read, ab_seq]) _ (read_sign2 (t := s.drop (i + 1)) hs (by omega) rfl g0 g6 g7 g8 g9 g11) ?_
  rintro _ e8 s8 ⟨rfl, hst, k0, k6, k7, k8, k9, k11⟩
  rw [kSeq_norm, hst]
  obtain ⟨z1, z2, z3⟩ := sgn_drop (s.drop (i + 1))
  rw [List.length_drop] at z2 z3
  have hdr : s.drop (s.length - (sgn (s.drop (i + 1))).2.length) = (sgn (s.drop (i + 1))).2 := by
    conv => rhs; rw [z1]
    rw [List.drop_drop, List.length_drop]
    congr 1
    omega
  exact read_end H hs (by omega) hdr hx hv hex k0 k6 k7 k8 k9 k11

theorem mant_suffix : ∀ (pt : Bool) (r : List UInt8), ∃ k, (mant pt r).2.2 = r.drop k ∧ k ≤ r.length
  | _, [] => ⟨0, by simp [mant]⟩
  | pt, c :: r => by
    simp only [mant]
    split
    · obtain ⟨k, h1, h2⟩ := mant_suffix pt r
      exact ⟨k + 1, by simp [h1], by simp; omega⟩
    · split
      · obtain ⟨k, h1, h2⟩ := mant_suffix true r
        exact ⟨k + 1, by simp [h1], by simp; omega⟩
      · exact ⟨0, by simp⟩

theorem Sl.cases {s : St} {v : AV} {ty es k : Nat} {cs : List AV} (a : Sl s v ty es k cs) : (v = .nilslice ∧ cs = [] ∧ k = 0) ∨ ∃ n cp, v = .slice n 0 k cp := by
  obtain ⟨n, a⟩ := a
  rcases a with ⟨h1, h2, h3⟩ | ⟨h1, h2, h3⟩ | ⟨ty', h1, h2, h3⟩
  · exact .inl ⟨h1, h2, h3⟩
  · exact .inr ⟨n, _, h1⟩
  · exact .inr ⟨n, _, h1⟩

theorem readR_mid (s : List UInt8) : readR s = if (mant false (sgn s).2).1 = [] then none else midS (sgn s).1 (mant false (sgn s).2).1 (0 - ((mant false (sgn s).2).2.1 : Int)) (mant false (sgn s).2).2.2 := by
  unfold readR
  simp only
  split
  · rfl
  · cases (mant false (sgn s).2).2.2 with
    | nil => simp [midS]
    | cons c t =>
      simp only [midS, Int.zero_sub]

theorem read_tells (H : B.H_chaseref01_Read T) (hwf : st.Wf) {s : List UInt8} (hs : s.length < 1000000000000) :
    CRes (call T (.fn 80 [] []) [.str s] st) fun v s' => Ext st s' ∧ match readR s with
      | none => v = .tuple [.int .i64 0, .nilslice, .int .i64 0, .bool false]
      | some (neg, l, ex) => ∃ sv, v = .tuple [.int .i64 (sgnI neg), sv, .int .i64 ex, .bool true] ∧ Sl s' sv 3 1 l.length (i64s l) := by
  refine call_res H.e H.f rfl ?_
  have main : Res (run T (rb 0) (argEnv 0 ([] ++ [.str s] ++ [])) st) (ReadQ st (readR s)) := by
    refine cut (c := rb 0) rfl (by intro l; simp [rb, B.chaseref01_Read, ab_seq]) (fun x e' s' => x = .norm ∧ s' = st ∧ eget e' 0 = .str s) ?_ ?_
    · simp only [rb, B.chaseref01_Read, ab_seq]
      simp [go_sem]
    rintro _ e1 s1 ⟨rfl, hst, g0⟩
    rw [kSeq_norm, hst]
    clear hst
    refine cut (c := rb 1) rfl (by intro l; simp [rb, B.chaseref01_Read, ab_seq]) (fun x e' s' => x = .norm ∧ s' = st ∧ eget e' 0 = .str s ∧ eget e' 6 = .int .i64 0 ∧ eget e' 7 = .int .i64 1) ?_ ?_
    · simp only [rb, B.chaseref01_Read, ab_seq]
      simp [go_sem, g0]
    rintro _ e2 s2 ⟨rfl, hst, g0, g6, g7⟩
    rw [kSeq_norm, hst]
    clear hst
    refine cut (c := rb 2) rfl (by intro l; simp [rb, B.chaseref01_Read, ab_seq]) _ (read_sign hs g0 g6 g7) ?_
    rintro _ e3 s3 ⟨rfl, hst, g0, g6, g7⟩
    rw [kSeq_norm, hst]
    clear hst
    show Res (run T (.seq (.keep [0, 6, 7]) (rb 4)) e3 st) _
    rw [run_keep]
    have h4 : eget (keepE [0, 6, 7] e3) 0 = .str s ∧ eget (keepE [0, 6, 7] e3) 6 = .int .i64 ((s.length - (sgn s).2.length : Nat) : Int) ∧ eget (keepE [0, 6, 7] e3) 7 = .int .i64 (sgnI (sgn s).1) := by simp [keepE, eget, g0, g6, g7]
    generalize keepE [0, 6, 7] e3 = e4 at h4
    obtain ⟨k0, k6, k7⟩ := h4
    refine cut (c := rb 4) rfl (by intro l; simp [rb, B.chaseref01_Read, ab_seq]) (fun x e' s' => x = .norm ∧ s' = st ∧ eget e' 0 = .str s ∧ eget e' 6 = .int .i64 ((s.length - (sgn s).2.length : Nat) : Int) ∧ eget e' 7 = .int .i64 (sgnI (sgn s).1) ∧ eget e' 8 = .nilslice) ?_ ?_
    · simp only [rb, B.chaseref01_Read, ab_seq]
      simp [go_sem, k0, k6, k7]
    rintro _ e5 s5 ⟨rfl, hst, j0, j6, j7, j8⟩
    rw [kSeq_norm, hst]
    clear hst
    refine cut (c := rb 5) rfl (by intro l; simp [rb, B.chaseref01_Read, ab_seq]) (fun x e' s' => x = .norm ∧ s' = st ∧ eget e' 0 = .str s ∧ eget e' 6 = .int .i64 ((s.length - (sgn s).2.length : Nat) : Int) ∧ eget e' 7 = .int .i64 (sgnI (sgn s).1) ∧ eget e' 8 = .nilslice ∧ eget e' 9 = .int .i64 0 ∧ eget e' 10 = .bool false) ?_ ?_
    · simp only [rb, B.chaseref01_Read, ab_seq]
      simp [go_sem, j0, j6, j7, j8]
    rintro _ e6 s6 ⟨rfl, hst, i0, i6, i7, i8, i9, i10⟩
    rw [kSeq_norm, hst]
    clear hst
    obtain ⟨z1, z2, z3⟩ := sgn_drop s
    obtain ⟨k, y1, y2⟩ := mant_suffix false (sgn s).2
    have hml := mant_len false (sgn s).2
    refine cut (c := rb 6) rfl (by intro l; simp [rb, B.chaseref01_Read, ab_seq]) (fun x e' s' => x = .norm ∧ Ext st s' ∧ eget e' 0 = .str s ∧ eget e' 6 = .int .i64 ((s.length - (mant false (sgn s).2).2.2.length : Nat) : Int) ∧ eget e' 7 = .int .i64 (sgnI (sgn s).1) ∧ Sl s' (eget e' 8) 3 1 (mant false (sgn s).2).1.length (i64s (mant false (sgn s).2).1) ∧ eget e' 9 = .int .i64 (0 - ((mant false (sgn s).2).2.1 : Int))) ?_ ?_
    · show Res (run T (.block 0 (.loop B.chaseref01_Read_l0)) e6 st) _
      simp only [run_block, Res_blockE]
      refine (read_l0 H hs (sgnI (sgn s).1) st (s.length - (s.length - (sgn s).2.length)) (s.length - (sgn s).2.length) [] 0 false e6 st .nilslice (by omega) (by simp) (by omega) (by omega) (.refl hwf) (.nil _ _ _) (Mine.nil _ _) i0 i6 i7 i8 i9 i10).mono ?_
      rw [← z1]
      rintro x e s' ⟨rfl, a1, a2, a3, a4, a5, a6, a7⟩
      simp only [List.nil_append] at a5
      simp [go_sem, a1, a2, a3, a4, a5, a7]
    rintro _ e7 s7 ⟨rfl, x7, j0, j6, j7, j8, j9⟩
    rw [kSeq_norm]
    show Res (run T (.seq (.keep [0, 6, 7, 8, 9]) (rb 8)) e7 s7) _
    rw [run_keep]
    rw [readR_mid]
    have hdr : s.drop (s.length - (mant false (sgn s).2).2.2.length) = (mant false (sgn s).2).2.2 := by
      rw [y1, z1, List.drop_drop, List.length_drop]
      congr 1
      omega
    have hil : s.length - (mant false (sgn s).2).2.2.length ≤ s.length := by omega
    have hex : -1000000000000 ≤ (0 - ((mant false (sgn s).2).2.1 : Int)) ∧ (0 - ((mant false (sgn s).2).2.1 : Int)) ≤ 0 := by omega
    generalize (mant false (sgn s).2).2.2 = rest at *
    generalize 0 - ((mant false (sgn s).2).2.1 : Int) = ex at *
    generalize (mant false (sgn s).2).1 = l at *
    generalize s.length - rest.length = i1 at *
    rcases j8.cases with ⟨h1, h2, h3⟩ | ⟨n, cp, h1⟩
    · have : l = [] := List.length_eq_zero_iff.1 h3
      subst this
      simp only [rb, B.chaseref01_Read, ab_seq]
      simp [go_sem, j0, j6, j7, h1, j9, ReadQ, x7]
    · rw [h1] at j8
      have h55 : E5 s i1 (sgnI (sgn s).1) (.slice n 0 l.length cp) ex (keepE [0, 6, 7, 8, 9] e7) := by simp [E5, keepE, eget, j0, j6, j7, h1, j9]
      have := read_mid H hs hil x7 j8 hex h55
      rw [hdr] at this
      exact this
  refine main.mono ?_
  rintro x e s' ⟨hx, x1, hU⟩
  refine ⟨hx, _, rfl, ?_⟩
  cases hr : readR s with
  | none =>
    rw [hr] at hU
    obtain ⟨k2, k3, k4, k5⟩ := hU
    exact ⟨x1.dropLoc, by simp [B.chaseref01_Read, resVal, k2, k3, k4, k5]⟩
  | some p =>
    obtain ⟨neg, l, ex⟩ := p
    rw [hr] at hU
    obtain ⟨k2, k3, k4, k5⟩ := hU
    exact ⟨x1.dropLoc, _, by simp [B.chaseref01_Read, resVal, k2, k4, k5], k3.dropLoc x1.wf⟩
end Go.Ev

/- Digits multiplied. -/
namespace Go.Ev
open Go
set_option linter.unusedSimpArgs false
set_option linter.unusedSectionVars false
set_option linter.unusedVariables false

variable {T : Tab} {st : St}

/-- Digits times 131072: the same number of digits, and what is carried out. -/
def mul1 : List Nat → List Nat × Nat
  | [] => ([], 0)
  | d :: l => ((131072 * d + (mul1 l).2) % 10 :: (mul1 l).1, (131072 * d + (mul1 l).2) / 10)
def pad : Nat → Nat → List Nat
  | 0, _ => []
  | k + 1, c => pad k (c / 10) ++ [c % 10]
def timesS (l : List Nat) : List Nat := pad 6 (mul1 l).2 ++ (mul1 l).1

theorem mul1_len : ∀ l, (mul1 l).1.length = l.length
  | [] => rfl
  | d :: l => by simp [mul1, mul1_len l]
theorem pad_len : ∀ k c, (pad k c).length = k
  | 0, _ => rfl
  | k + 1, c => by simp [pad, pad_len k]
theorem mul1_lt : ∀ l, (∀ d ∈ l, d < 10) → (mul1 l).2 < 131072
  | [], _ => by simp [mul1]
  | d :: l, h => by
    have h1 := mul1_lt l fun x hx => h x (List.mem_cons_of_mem _ hx)
    have h2 := h d List.mem_cons_self
    simp only [mul1]; omega
theorem mul1_dig : ∀ l, ∀ d ∈ (mul1 l).1, d < 10
  | [], d, h => by cases h
  | x :: l, d, h => by
    simp only [mul1] at h
    rcases List.mem_cons.1 h with rfl | h
    · omega
    · exact mul1_dig l d h
theorem pad_dig : ∀ k c, ∀ d ∈ pad k c, d < 10
  | 0, _, d, h => by cases h
  | k + 1, c, d, h => by
    simp only [pad] at h
    rcases List.mem_append.1 h with h | h
    · exact pad_dig k _ d h
    · simp at h; omega

theorem set_zero (p q : Nat) (X : List Nat) : (i64s (List.replicate (p + 1) 0 ++ X)).set p (.int .i64 (q : Int)) = i64s (List.replicate p 0 ++ (q :: X)) := by
  have h : (i64s (List.replicate p 0)).length = p := by simp [i64s]
  rw [List.replicate_succ', List.append_assoc]
  simp only [i64s, List.map_append] at h ⊢
  rw [List.set_append_right _ _ (by omega), h]
  simp

theorem mulw {d c N : Nat} (hd10 : d < 10) (hc : c < 131072) (hN : N = 131072 * d + c) : N < 1310720 ∧ IntKind.i64.wrap ((d : Int) * 131072) = d * 131072 ∧ IntKind.i64.wrap ((d : Int) * 131072 + c) = (N : Int) ∧ IntKind.i64.wrap ((N / 10 : Nat) : Int) = ((N / 10 : Nat) : Int) := by
  have h : N < 1310720 := by omega
  refine ⟨h, wrap64' (by omega) (by omega), ?_, wrap64' (by omega) (by omega)⟩
  rw [wrap64' (by omega) (by omega)]; omega
theorem div10 (N : Nat) : (N : Int).tmod 10 = ((N % 10 : Nat) : Int) ∧ (N : Int).tdiv 10 = ((N / 10 : Nat) : Int) := by
  refine ⟨?_, ?_⟩
  · rw [Int.tmod_eq_emod_of_nonneg (by omega)]; omega
  · rw [Int.tdiv_eq_ediv_of_nonneg (by omega)]; omega
theorem idx6 {m k : Nat} (h : m < k) (hk : k ≤ 1000000) : IntKind.i64.wrap ((m : Int) + 6) = ((m + 6 : Nat) : Int) ∧ IntKind.i64.wrap ((m : Int) - 1) = (m : Int) - 1 := by
  refine ⟨?_, wrap64' (by omega) (by omega)⟩
  rw [wrap64' (by omega) (by omega)]; omega

theorem times_l0 {sv : AV} {l : List Nat} {n : Nat} (hk : l.length ≤ 1000000) (hd : ∀ d ∈ l, d < 10) (st0 : St) (hn : st0.nx ≤ n) (hsv : ∀ m ∈ sv.nms, m ≠ n) : ∀ (m : Nat) (e : Env) (st1 : St), m ≤ l.length → Ext st0 st1 → Rd st1.h sv 1 l.length (i64s l) → hget st1.h n = some (.cells 3 false (i64s (List.replicate (6 + m) 0 ++ (mul1 (l.drop m)).1))) → eget e 0 = sv → eget e 3 = .slice n 0 (l.length + 6) (.known (l.length + 6)) → eget e 4 = .int .i64 ((mul1 (l.drop m)).2 : Nat) → eget e 5 = .int .i64 ((m : Int) - 1) →
    Res (run T (.loop B.chaseref01_times_l0) e st1) fun x e' s' => x = .exit 0 ∧ Ext st0 s' ∧ hget s'.h n = some (.cells 3 false (i64s (List.replicate 6 0 ++ (mul1 l).1))) ∧ eget e' 3 = .slice n 0 (l.length + 6) (.known (l.length + 6)) ∧ eget e' 4 = .int .i64 ((mul1 l).2 : Nat) := by
  intro m
  induction m with
  | zero =>
    intro e st1 hm hx hr hg g0 g3 g4 g5
    rw [run_loop]
    simp at hg
    simp [B.chaseref01_times_l0, go_sem, g0, g3, g4, g5, hx]
    exact hg
  | succ m ih =>
    intro e st1 hm hx hr hg g0 g3 g4 g5
    have hml : m < l.length := by omega
    obtain ⟨d, hdm, hdr⟩ : ∃ d, l[m]? = some d ∧ l.drop m = d :: l.drop (m + 1) := ⟨l[m], List.getElem?_eq_getElem hml, List.drop_eq_getElem_cons hml⟩
    have hd10 : d < 10 := hd d (List.mem_of_getElem? hdm)
    have hc := mul1_lt (l.drop (m + 1)) fun x hx => hd x (List.mem_of_mem_drop hx)
    have hmu : mul1 (l.drop m) = ((131072 * d + (mul1 (l.drop (m + 1))).2) % 10 :: (mul1 (l.drop (m + 1))).1, (131072 * d + (mul1 (l.drop (m + 1))).2) / 10) := by rw [hdr]; simp only [mul1]
    have hlen1 := mul1_len (l.drop (m + 1))
    generalize mul1 (l.drop (m + 1)) = M at hg g4 hc hmu hlen1
    obtain ⟨M1, M2⟩ := M
    simp only at hg g4 hc hmu hlen1
    have e5 : ((m + 1 : Nat) : Int) - 1 = (m : Int) := by omega
    rw [e5] at g5
    obtain ⟨N, hN⟩ : ∃ N, N = 131072 * d + M2 := ⟨_, rfl⟩
    obtain ⟨hNb, w1, w2, w6⟩ := mulw hd10 hc hN
    obtain ⟨w4, w5⟩ := div10 N
    obtain ⟨w3, w7⟩ := idx6 hml hk
    obtain ⟨nn, off, cp, hsvs, hrr⟩ : ∃ nn off cp, sv = .slice nn off l.length cp ∧ rdCell st1.h nn (off + m) = some (.int .i64 (d : Int)) := by
      rcases hr with ⟨h1, h2, h3⟩ | ⟨nn, off, cp, h1, h2⟩
      · omega
      · refine ⟨nn, off, cp, h1, ?_⟩
        rw [rdCells_get h2 (by omega)]
        simp [i64s, hdm]
    have hw : wrCells st1.h n (m + 6) [.int .i64 ((N % 10 : Nat) : Int)] = some (hset st1.h n (.cells 3 false (i64s (List.replicate (6 + m) 0 ++ (N % 10 :: M1))))) := by
      rw [wr_cells hg rfl (by rw [i64s_len]; simp; omega), show m + 6 = 6 + m by omega, show 6 + (m + 1) = (6 + m) + 1 by omega, set_zero]
    have f1 := Frm.set hx.wf hg (o := .cells 3 false (i64s (List.replicate (6 + m) 0 ++ (N % 10 :: M1))))
    have x1 : Ext st0 ⟨hset st1.h n (.cells 3 false (i64s (List.replicate (6 + m) 0 ++ (N % 10 :: M1)))), st1.nx⟩ := hx.frm f1 (by simpa using hn)
    have r1 : Rd (hset st1.h n (.cells 3 false (i64s (List.replicate (6 + m) 0 ++ (N % 10 :: M1))))) sv 1 l.length (i64s l) := hr.frm f1 hx.wf (fun k hk hk' => by simp at hk'; exact hsv k hk hk')
    have g1 : hget (hset st1.h n (.cells 3 false (i64s (List.replicate (6 + m) 0 ++ (N % 10 :: M1))))) n = some (.cells 3 false (i64s (List.replicate (6 + m) 0 ++ (N % 10 :: M1)))) := hget_hset_self hg
    rw [← hN] at hmu
    rw [show (N % 10 :: M1) = (mul1 (l.drop m)).1 by rw [hmu]] at hw x1 r1 g1
    rw [show N / 10 = (mul1 (l.drop m)).2 by rw [hmu]] at w5 w6
    clear f1
    generalize mul1 (l.drop m) = MM at hw x1 r1 g1 w5 w6 ih
    generalize N % 10 = R at w4 hw
    have hml' : (m : Int) < l.length := by omega
    have hm6 : ((m + 6 : Nat) : Int) < (l.length + 6 : Nat) := by omega
    obtain ⟨q, hq⟩ : ∃ q, q = m + 6 := ⟨_, rfl⟩
    have hq6 : (q : Int) < (l.length : Int) + 6 := by omega
    rw [← hq] at w3 hw hm6
    rw [run_loop]
    simp [B.chaseref01_times_l0, go_sem, g0, g3, g4, g5, hsvs, RO.run, WO.run, hml', hrr, w1, w2, w3, w4, w5, w6, hq6, hw]
    refine ih _ _ (by omega) x1 r1 g1 ?_ ?_ ?_ ?_
    · simp [go_sem, hsvs]
    · simp [go_sem]
    · simp [go_sem, w5, w6]
    · simp [go_sem, w7]

theorem times_l1 {n k : Nat} {X : List Nat} (st0 : St) (hn : st0.nx ≤ n) : ∀ (m c : Nat) (e : Env) (st1 : St), m ≤ 6 → c < 1000000 → Ext st0 st1 → k = 6 + X.length - 6 → ∀ Y : List Nat, Y.length = 6 - m + X.length → hget st1.h n = some (.cells 3 false (i64s (List.replicate m 0 ++ Y))) → eget e 3 = .slice n 0 (k + 6) (.known (k + 6)) → eget e 4 = .int .i64 (c : Nat) → eget e 7 = .int .i64 ((m : Int) - 1) →
    Res (run T (.loop B.chaseref01_times_l1) e st1) fun x e' s' => x = .exit 2 ∧ Ext st0 s' ∧ hget s'.h n = some (.cells 3 false (i64s (pad m c ++ Y))) ∧ eget e' 3 = .slice n 0 (k + 6) (.known (k + 6)) := by
  intro m
  induction m with
  | zero =>
    intro c e st1 hm hcb hx hk Y hY hg g3 g4 g7
    rw [run_loop]
    simp at hg
    simp [B.chaseref01_times_l1, go_sem, g3, g4, g7, hx, pad]
    exact hg
  | succ m ih =>
    intro c e st1 hm hcb hx hk Y hY hg g3 g4 g7
    have e5 : ((m + 1 : Nat) : Int) - 1 = (m : Int) := by omega
    rw [e5] at g7
    obtain ⟨w4, w5⟩ := div10 c
    have w7 : IntKind.i64.wrap ((m : Int) - 1) = (m : Int) - 1 := wrap64' (by omega) (by omega)
    have w6 : IntKind.i64.wrap ((c / 10 : Nat) : Int) = ((c / 10 : Nat) : Int) := wrap64' (by omega) (by omega)
    have hw : wrCells st1.h n m [.int .i64 ((c % 10 : Nat) : Int)] = some (hset st1.h n (.cells 3 false (i64s (List.replicate m 0 ++ (c % 10 :: Y))))) := by
      rw [wr_cells hg rfl (by rw [i64s_len]; simp; omega), set_zero]
    have hpad : pad (m + 1) c ++ Y = pad m (c / 10) ++ (c % 10 :: Y) := by simp [pad]
    rw [hpad]
    have hc10 : c / 10 < 1000000 := by omega
    generalize c % 10 = R at w4 hw ⊢
    generalize c / 10 = C at w5 w6 hc10 ⊢
    have f1 := Frm.set hx.wf hg (o := .cells 3 false (i64s (List.replicate m 0 ++ (R :: Y))))
    have x1 : Ext st0 ⟨hset st1.h n (.cells 3 false (i64s (List.replicate m 0 ++ (R :: Y)))), st1.nx⟩ := hx.frm f1 (by simpa using hn)
    have g1 : hget (hset st1.h n (.cells 3 false (i64s (List.replicate m 0 ++ (R :: Y))))) n = some (.cells 3 false (i64s (List.replicate m 0 ++ (R :: Y)))) := hget_hset_self hg
    have hm6 : (m : Int) < (k : Int) + 6 := by omega
    rw [run_loop]
    simp [B.chaseref01_times_l1, go_sem, g3, g4, g7, RO.run, WO.run, hm6, w4, w5, w6, hw]
    refine ih C _ _ (by omega) hc10 x1 hk (R :: Y) (by simp; omega) g1 ?_ ?_ ?_
    · simp [go_sem]
    · simp [go_sem, w5, w6]
    · simp [go_sem, w7]

theorem reps_zero : ∀ k, reps [AV.int .i64 0] k = i64s (List.replicate k 0)
  | 0 => rfl
  | k + 1 => by
    rw [List.replicate_succ]
    simp [reps, reps_zero k, i64s]

theorem times_tells (H : B.H_chaseref01_times T) (hwf : st.Wf) {nn off : Nat} {cp : Cap} {l : List Nat} (hk : l.length ≤ 1000000) (hd : ∀ d ∈ l, d < 10) (hr : Rd st.h (.slice nn off l.length cp) 1 l.length (i64s l)) :
    CRes (call T (.fn 103 [] []) [.slice nn off l.length cp] st) fun v s' => Ext st s' ∧ ∃ n c, v = .slice n 0 (l.length + 6) c ∧ Rd s'.h v 1 (l.length + 6) (i64s (timesS l)) := by
  refine call_res H.e H.f rfl ?_
  have w1 : IntKind.i64.wrap ((l.length : Int) + 6) = ((l.length + 6 : Nat) : Int) := by rw [wrap64' (by omega) (by omega)]; omega
  have w2 : IntKind.i64.wrap ((l.length : Int) - 1) = (l.length : Int) - 1 := wrap64' (by omega) (by omega)
  have xn := Ext.new hwf (.cells 3 false (i64s (List.replicate (6 + l.length) 0)))
  have hg : hget ((st.nx, AObj.cells 3 false (i64s (List.replicate (6 + l.length) 0))) :: st.h) st.nx = some (.cells 3 false (i64s (List.replicate (6 + l.length) 0 ++ (mul1 (l.drop l.length)).1))) := by simp [hget_cons, mul1]
  have hrn := hr.ext xn hwf
  have hsv : ∀ m ∈ (AV.slice nn off l.length cp).nms, m ≠ st.nx := fun m hm h => by have := hr.lt hwf m hm; omega
  have lp := fun e a b c d => times_l0 (T := T) hk hd st (Nat.le_refl _) hsv l.length e _ (Nat.le_refl _) xn hrn hg a b c d
  have hmz : mul1 (l.drop l.length) = ([], 0) := by simp [mul1]
  rw [hmz] at lp
  have hml := mul1_len l
  have hmb := mul1_lt l hd
  have hq8 : ((l.length : Int) + 6) * 8 ≤ 140737488355328 := by omega
  have hq9 : (l.length : Int) + 6 ≤ 140737488355328 := by omega
  have hts : timesS l = pad 6 (mul1 l).2 ++ (mul1 l).1 := rfl
  rw [hts]
  generalize mul1 l = M at lp hml hmb ⊢
  obtain ⟨q, hq⟩ : ∃ q, q = l.length + 6 := ⟨_, rfl⟩
  have hq' : (q : Int) = (l.length : Int) + 6 := by omega
  rw [show 6 + l.length = q by omega] at lp
  rw [← hq] at w1 lp ⊢
  have hq8 : (q : Int) * 8 ≤ 140737488355328 := by omega
  have hq9 : (q : Int) ≤ 140737488355328 := by omega
  simp [B.chaseref01_times, go_sem, NO.run, w1, w2, hq8, hq9, reps_zero]
  refine (lp _ (by simp [go_sem]) (by simp [go_sem]) (by simp [go_sem]) (by simp [go_sem])).mono ?_
  rintro x e s1 ⟨rfl, x1, g1, k3, k4⟩
  simp [go_sem, k3, k4]
  refine (times_l1 (T := T) (X := M.1) (k := l.length) st (Nat.le_refl _) 6 M.2 _ s1 (by omega) (by omega) x1 (by omega) M.1 (by omega) g1 (by simp [go_sem, hq]) (by simp [go_sem]) (by simp [go_sem])).mono ?_
  rintro x e2 s2 ⟨rfl, x2, g2, j3⟩
  simp [go_sem, j3]
  have g3 := hget_dropLoc_keep (c := st.nx) x2.wf g2 rfl
  refine ⟨x2.dropLoc, by omega, .inr ⟨_, _, _, by rw [← hq], rd_all g3 ?_⟩⟩
  rw [i64s_len, List.length_append, pad_len]
  omega

theorem tdm2 (a : Int) : (0 ≤ a ∧ a.tdiv 2 = a / 2 ∧ a.tmod 2 = a % 2) ∨ (a < 0 ∧ a.tdiv 2 = -((-a) / 2) ∧ a.tmod 2 = -((-a) % 2)) := by
  by_cases h : 0 ≤ a
  · exact .inl ⟨h, Int.tdiv_eq_ediv_of_nonneg h, Int.tmod_eq_emod_of_nonneg h⟩
  · refine .inr ⟨by omega, ?_, ?_⟩
    · have := Int.neg_tdiv (-a) 2
      rw [Int.neg_neg] at this
      rw [this, Int.tdiv_eq_ediv_of_nonneg (by omega)]
    · have := Int.neg_tmod (-a) 2
      rw [Int.neg_neg] at this
      rw [this, Int.tmod_eq_emod_of_nonneg (by omega)]

theorem floor_tells (H : B.H_chaseref01_Floor T) (hwf : st.Wf) {a : Int} (h0 : -1000000000000000 ≤ a) (h1 : a ≤ 1000000000000000) : Tells T st (.fn 104 [] []) [.int .i64 a, .int .i64 2] (.int .i64 (a / 2)) := by
  refine tells_of H.e H.f rfl ?_
  have ht := tdm2 a
  have w1 : IntKind.i64.wrap (a.tdiv 2) = a.tdiv 2 := wrap64' (by omega) (by omega)
  have w2 : IntKind.i64.wrap (a.tdiv 2 - 1) = a.tdiv 2 - 1 := wrap64' (by omega) (by omega)
  by_cases h : a.tmod 2 < 0
  · have hq : a / 2 = a.tdiv 2 - 1 := by omega
    simp [B.chaseref01_Floor, go_sem, h, w1, w2, hq, Ext.refl hwf]
  · have hq : a / 2 = a.tdiv 2 := by omega
    simp [B.chaseref01_Floor, go_sem, h, w1, hq, Ext.refl hwf]

theorem is105_tells (H : B.H_chaseref01_Is T) (hwf : st.Wf) {n : Int} : Tells T st (.fn 105 [] []) [.int .i64 n] (.bool (decide (-2147483648 ≤ n) && decide (n ≤ 2147483648))) := by
  refine tells_of H.e H.f rfl ?_
  by_cases h : -2147483648 ≤ n
  · simp [B.chaseref01_Is, go_sem, h, Ext.refl hwf]
  · simp [B.chaseref01_Is, go_sem, h, Ext.refl hwf]
end Go.Ev
