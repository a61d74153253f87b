/- The drafts of the reference: widths and rows. -/
import Derived.Test.YtglndmkmfhafhaaEvFaxR
import Derived.Test.YtglndmkmfhafhaaEvFaxD
import Derived.Test.YtglndmkmfhafhaaEvR
import Derived.Lib.SmallJoins
import Derived.Deep.Slices
import Derived.OpenShut
namespace Go.Ev
open Go
set_option linter.unusedSimpArgs false
set_option linter.unusedVariables false

variable {T : Tab} {st : St}

theorem rowOut_row {w : Nat} {row : List Bool} (h : row.length = w) : rowOut w row = row ++ List.replicate (8 * ((w + 7) / 8) - w) false := by
  apply List.ext_getElem?
  intro k
  by_cases hk : k < 8 * ((w + 7) / 8)
  · have h1 : (rowOut w row)[k]? = some (decide (k < w) && row.getD k false) := by simp [rowOut, hk]
    rw [h1]
    by_cases hw : k < w
    · rw [List.getElem?_append_left (by omega), List.getD_eq_getElem?_getD, List.getElem?_eq_getElem (by omega)]
      simp [hw]
    · rw [List.getElem?_append_right (by omega), List.getElem?_replicate, if_pos (by omega)]
      simp [hw]
  · rw [List.getElem?_eq_none (by rw [rowOut_length]; omega), List.getElem?_eq_none (by simp; omega)]

theorem mod2_bool (n : Nat) : ((n : Int)).tmod 2 = (((n % 2 == 1) : Bool).toNat : Nat) := by
  have h1 : (((n % 2 == 1) : Bool).toNat) = n % 2 := by rcases Nat.mod_two_eq_zero_or_one n with h | h <;> rw [h] <;> rfl
  rw [h1, Int.tmod_eq_emod_of_nonneg (by omega)]
  omega

/-- The values of octets. -/
def u8s (l : List Nat) : List AV := l.map fun (n : Nat) => .int .u8 (n : Nat)

theorem width_tells (H : B.HasFax T) (hwf : st.Wf) {wide : Nat} (hwd : wide < 256) {sv : AV} : Tells T st (.fn 7 [] []) [.agg [.int .u8 wide, sv]] (.int .i64 ((1 + wide % 128 : Nat) : Int)) := by
  refine tells_of H.e7 H.f7 rfl ?_
  have hx := Ext.new hwf (.cells 24 true [.int .u8 wide, sv])
  have hd : (wide : Int).tmod 128 = (wide % 128 : Nat) := by rw [Int.tmod_eq_emod_of_nonneg (by omega)]; omega
  have hr : rdCell ((st.nx, AObj.cells 24 true [.int .u8 wide, sv]) :: st.h) st.nx 0 = some (.int .u8 wide) := by simp [rdCell, hget_cons]
  simp (disch := omega) [B.chaseref07_Draft_Width, go_sem, hr, hd, wrap64]
  exact hx

theorem IntsIn.store {st0 s : St} {v : AV} {M : List Bool} {k : Nat} (h : IntsIn st0 s v M) (hk : k < M.length) (y : Bool) :
    ∃ n cp, v = .slice n 0 M.length cp ∧ ∃ h', wrCells s.h n k [.int .i64 (y.toNat : Nat)] = some h' ∧ IntsIn st0 ⟨h', s.nx⟩ v (M.set k y) ∧ Frm v.nms s ⟨h', s.nx⟩ := by
  obtain ⟨n, hs⟩ := h.sl
  have hv : ∃ cp, v = .slice n 0 M.length cp := by
    rcases hs with ⟨h1, h2, h3⟩ | ⟨h1, h2, h3⟩ | ⟨ty', h1, h2, h3⟩
    · omega
    · exact ⟨_, h1⟩
    · exact ⟨_, h1⟩
  obtain ⟨cp, hv⟩ := hv
  obtain ⟨h', h1, h2, h3⟩ := hs.store h.frm.wf (o := k) (x := .int .i64 (y.toNat : Nat)) (by rw [ints_len]; exact hk) rfl
  have hnm : v.nms = [n] := by rw [hv]; rfl
  refine ⟨n, cp, hv, h', h1, ⟨h.frm.trans h3 (fun m hm => h.mine m (by rw [hnm]; exact hm)), ⟨n, ?_⟩, h.mine⟩, by rw [hnm]; exact h3⟩
  have : (ints M).set k (.int .i64 (y.toNat : Nat)) = ints (M.set k y) := by simp [ints, List.map_set]
  rw [this] at h2
  rw [List.length_set]
  exact h2

/-- Zeros up to the next octet. -/
def pad8 (O : List Bool) : List Bool := O ++ List.replicate ((8 - O.length % 8) % 8) false

theorem pad_loop (H : B.HasFax T) {u1 u3 u6 u8 : AV} : ∀ (k : Nat) (s : St) (v : AV) (O : List Bool) (e : Env), (8 - O.length % 8) % 8 = k → O.length + k < 1000000000 → IntsIn st s v O →
    eget e 1 = u1 → eget e 3 = u3 → eget e 5 = v → eget e 6 = u6 → eget e 8 = u8 →
    Res (run T (.loop B.chaseref07_Draft_Data_l1) e s) fun q e' s' => q = .exit 4 ∧ IntsIn st s' (eget e' 5) (pad8 O) ∧ Frm v.nms s s' ∧ Mine v.nms s (eget e' 5) ∧ eget e' 1 = u1 ∧ eget e' 3 = u3 ∧ eget e' 6 = u6 ∧ eget e' 8 = u8 := by
  intro k
  induction k with
  | zero =>
    intro s v O e hk hl hI g1 g3 g5 g6 g8
    have h8 : (O.length : Int) % 8 = 0 := by omega
    have hd : (O.length : Int).tmod 8 = (O.length % 8 : Nat) := by rw [Int.tmod_eq_emod_of_nonneg (by omega)]; omega
    have hp : pad8 O = O := by simp [pad8, hk]
    rw [hp, run_loop]
    have hfin : Mine v.nms s v := fun n hn => .inl hn
    rcases hI.sl.rd with ⟨h1, h2, h3⟩ | ⟨n, off, cp, h1, h2⟩
    · subst h1
      simp (disch := omega) [B.chaseref07_Draft_Data_l1, go_sem, g1, g3, g5, g6, g8]
      exact ⟨hI, .refl hI.frm.wf _, hfin⟩
    · subst h1
      simp (disch := omega) [B.chaseref07_Draft_Data_l1, go_sem, g1, g3, g5, g6, g8, hd, h8]
      exact ⟨hI, .refl hI.frm.wf _, hfin⟩
  | succ k ih =>
    intro s v O e hk hl hI g1 g3 g5 g6 g8
    have h8 : ¬ (O.length : Int) % 8 ≤ 0 := by omega
    have h8b : 0 < (O.length : Int) % 8 := by omega
    have hd : (O.length : Int).tmod 8 = (O.length % 8 : Nat) := by rw [Int.tmod_eq_emod_of_nonneg (by omega)]; omega
    obtain ⟨n, off, cp, h1, h2⟩ := hI.sl.rd.slice (by omega)
    have hpad : pad8 O = pad8 (O ++ [false]) := by
      unfold pad8
      rw [hk, List.append_assoc]
      congr 1
      have : (8 - (O ++ [false]).length % 8) % 8 = k := by simp; omega
      rw [this, List.replicate_succ]; rfl
    rw [hpad, run_loop]
    simp (disch := omega) [B.chaseref07_Draft_Data_l1, go_sem, g1, g3, g5, g6, g8, h1, hd, h8b]
    rw [← h1]
    refine Sl.push (st0 := s) (S := v.nms) (.refl hI.frm.wf _) (fun n hn => .inl hn) hI.sl rfl (by omega) (by omega) fun v' s' hS' hF' hM' _ => ?_
    have hI' : IntsIn st s' v' (O ++ [false]) := ⟨hI.frm.trans hF' hI.mine, by rw [List.length_append, ints_append]; exact hS', hM'.mono (fun n hn => by
      rcases hI.mine n hn with h | h
      · cases h
      · exact .inr h) hI.frm.nx⟩
    simp (disch := omega) [go_sem]
    refine (ih s' v' (O ++ [false]) _ (by rw [List.length_append, List.length_singleton]; omega) (by rw [List.length_append, List.length_singleton]; omega) hI' ?_ ?_ ?_ ?_ ?_).mono ?_
    · simp [go_sem]
    · simp [go_sem]
    · simp [go_sem]
    · simp [go_sem]
    · simp [go_sem]
    rintro q e2 s2 ⟨rfl, k1, k2, k3, k4⟩
    exact ⟨rfl, k1, hF'.trans k2 (fun n hn => hM' n hn), k3.mono (fun n hn => hM' n hn) hF'.nx, k4⟩

/-- The pixels that a draft changes. -/
theorem mark_loop (H : B.HasFax T) {b : Nat} {w x0 x1 x2 : Nat} {to : Nat} (hw : w ≤ 128) (hto : to < w) (h2 : x2 < 256) {u1 u3 u5 u6 : AV} : ∀ (k i : Nat) (s : St) (v : AV) (M : List Bool) (e : Env), i + k = to + 1 ∨ (k = 0 ∧ to < i) → M.length = w → IntsIn st s v M → (∀ n ∈ v.nms, b ≠ n) →
    hget s.h b = some (.cells 46 true [.int .u8 x0, .int .u8 x1, .int .u8 x2]) → eget e 1 = u1 → eget e 3 = u3 → eget e 5 = u5 → eget e 6 = u6 → eget e 7 = .ptr b 0 → eget e 8 = v → eget e 10 = .int .i64 to → eget e 11 = .int .i64 i →
    Res (run T (.loop B.chaseref07_Draft_Data_l0) e s) fun q e' s' => q = .exit 2 ∧ (∃ M' : List Bool, M'.length = w ∧ IntsIn st s' v M') ∧ Frm v.nms s s' ∧ eget e' 1 = u1 ∧ eget e' 3 = u3 ∧ eget e' 5 = u5 ∧ eget e' 6 = u6 ∧ eget e' 8 = v := by
  intro k
  induction k with
  | zero =>
    intro i s v M e hk hM hI hbn hb g1 g3 g5 g6 g7 g8 g10 g11
    have hi : ¬ (i : Int) ≤ to := by omega
    rw [run_loop]
    simp (disch := omega) [B.chaseref07_Draft_Data_l0, go_sem, g1, g3, g5, g6, g7, g8, g10, g11, hi]
    exact ⟨⟨M, hM, hI⟩, .refl hI.frm.wf _⟩
  | succ k ih =>
    intro i s v M e hk hM hI hbn hb g1 g3 g5 g6 g7 g8 g10 g11
    have hi : (i : Int) ≤ to := by omega
    have hb2 : ∀ {h : Heap}, hget h b = some (.cells 46 true [.int .u8 x0, .int .u8 x1, .int .u8 x2]) → rdCell h b 2 = some (.int .u8 x2) := fun h => by simp [rdCell, h]
    have hm2 : (x2 : Int).tmod 2 = (((x2 % 2 == 1) : Bool).toNat : Nat) := mod2_bool x2
    have hm5 : (x2 : Int).tmod 5 = (x2 % 5 : Nat) := by rw [Int.tmod_eq_emod_of_nonneg (by omega)]; omega
    have hd5 : (x2 : Int).tdiv 5 = (x2 / 5 : Nat) := by rw [Int.tdiv_eq_ediv_of_nonneg (by omega)]; omega
    obtain ⟨y, hy⟩ : ∃ y : Nat, y = 1 + x2 / 5 := ⟨_, rfl⟩
    have hy2 : (1 : Int) + ((x2 : Int) / 5) = (y : Int) := by omega
    have hyq : (i : Int).tdiv y = (i / y : Nat) := by rw [Int.tdiv_eq_ediv_of_nonneg (by omega)]; push_cast; rfl
    have hq0 : i / y ≤ i := Nat.div_le_self _ _
    obtain ⟨qq, hqq⟩ : ∃ qq, qq = i / y := ⟨_, rfl⟩
    rw [← hqq] at hyq hq0
    have hm2' : (qq : Int).tmod 2 = (((qq % 2 == 1) : Bool).toNat : Nat) := mod2_bool qq
    generalize (x2 % 2 == 1) = y1 at *
    generalize (qq % 2 == 1) = y2 at *
    obtain ⟨n, cp, hv, h1, hw1, hI1, hF1⟩ := hI.store (k := i) (by omega) y1
    have hnm : v.nms = [n] := by rw [hv]; rfl
    have hb1 : hget h1 b = some (.cells 46 true [.int .u8 x0, .int .u8 x1, .int .u8 x2]) := hF1.get hI.frm.wf hb (fun h => hbn b h rfl)
    obtain ⟨n', cp', hv', h2, hw2, hI2, hF2⟩ := hI1.store (k := i) (by rw [List.length_set]; omega) y2
    rw [List.length_set] at hv'
    have hnn : n' = n := by rw [hv] at hv'; injection hv' with a1; exact a1.symm
    subst hnn
    have hiM : (i : Int) < M.length := by omega
    have hr0 := hb2 hb
    have hr1 := hb2 hb1
    have hy0 : ¬ y = 0 := by omega
    have g8' := g8.trans hv
    have hbi2 := hF2.get hI1.frm.wf hb1 (fun h => hbn b h rfl)
    have fin : ∀ (s' : St) (M' : List Bool) (e' : Env), M'.length = w → IntsIn st s' v M' → Frm v.nms s s' → hget s'.h b = some (.cells 46 true [.int .u8 x0, .int .u8 x1, .int .u8 x2]) → eget e' 1 = u1 → eget e' 3 = u3 → eget e' 5 = u5 → eget e' 6 = u6 → eget e' 7 = .ptr b 0 → eget e' 8 = v → eget e' 10 = .int .i64 to → eget e' 11 = .int .i64 (i + 1 : Nat) →
        Res (run T (.loop B.chaseref07_Draft_Data_l0) e' s') fun q e' s' => q = .exit 2 ∧ (∃ M' : List Bool, M'.length = w ∧ IntsIn st s' v M') ∧ Frm v.nms s s' ∧ eget e' 1 = u1 ∧ eget e' 3 = u3 ∧ eget e' 5 = u5 ∧ eget e' 6 = u6 ∧ eget e' 8 = v := by
      intro s' M' e' f1 f2 f3 f4 f5 f6 f7 f8 f9 f10 f11 f12
      refine (ih (i + 1) s' v M' e' (by omega) f1 f2 hbn f4 f5 f6 f7 f8 f9 f10 f11 f12).mono ?_
      rintro q e2 s2 ⟨rfl, k1, k2, k3⟩
      exact ⟨rfl, k1, f3.trans k2 (fun n hn => .inl hn), k3⟩
    rw [run_loop]
    by_cases h54 : x2 % 5 = 4
    · have h54' : (x2 : Int) % 5 = 4 := by omega
      simp (disch := omega) [B.chaseref07_Draft_Data_l0, go_sem, g1, g3, g5, g6, g7, g8', g10, g11, hi, hr0, hm2, hiM, hw1, hr1, hm5, h54', hd5, wrap64, hy2, hy0, hyq, hm2', hw2]
      refine fin ⟨h2, s.nx⟩ _ _ (by rw [List.length_set, List.length_set]; exact hM) hI2 (hF1.trans hF2 (fun n hn => .inl hn)) hbi2 ?_ ?_ ?_ ?_ ?_ ?_ ?_ ?_
      all_goals simp [go_sem, hv]
    · have h54' : ¬ (x2 : Int) % 5 = 4 := by omega
      simp (disch := omega) [B.chaseref07_Draft_Data_l0, go_sem, g1, g3, g5, g6, g7, g8', g10, g11, hi, hr0, hm2, hiM, hw1, hr1, hm5, h54', wrap64]
      refine fin ⟨h1, s.nx⟩ _ _ (by rw [List.length_set]; exact hM) hI1 hF1 hb1 ?_ ?_ ?_ ?_ ?_ ?_ ?_ ?_
      all_goals simp [go_sem, hv]

/-- A draft's rows, as they lie in the heap. -/
structure DraftIn (s : St) (sv : AV) (k : Nat) (xs : List Nat) : Prop where
  rd : Rd s.h sv 3 k (u8s xs)
  lt : ∀ x ∈ xs, x < 256

/-- The octets of some rows. -/
def dataOf (w : Nat) (rs : List (List Bool)) : List UInt8 := (packN (rs.flatMap (rowOut w))).map UInt8.ofNat

theorem pad8_row {w : Nat} {O R : List Bool} (hO : O.length % 8 = 0) (hR : R.length = w) : pad8 (O ++ R) = O ++ rowOut w R := by
  rw [rowOut_row hR, pad8, List.append_assoc]
  congr 2
  congr 1
  rw [List.length_append, hR]
  omega

theorem flat_length (w : Nat) : ∀ rs : List (List Bool), (rs.flatMap (rowOut w)).length = rs.length * (8 * ((w + 7) / 8))
  | [] => by simp
  | r :: rs => by
    rw [List.flatMap_cons, List.length_append, rowOut_length, flat_length w rs, List.length_cons, Nat.add_mul, Nat.one_mul, Nat.add_comm]

theorem data_loop (H : B.HasFax T) {b w kk : Nat} {sv u0 : AV} {xs : List Nat} (hw : 1 ≤ w) (hw' : w ≤ 128) (hwf : st.Wf) (hD : DraftIn st sv kk xs) (hk : kk < 9223372036854775808) {s0 : St} (hx0 : Ext st s0) (hb : hget s0.h b = some (.cells 24 true [u0, sv])) :
    ∀ (m i : Nat) (s : St) (v rv : AV) (rs : List (List Bool)) (R : List Bool) (e : Env), i + m = min kk 50 → rs.length = i → (∀ r ∈ rs, r.length = w) → R.length = w → IntsIn s0 s v (rs.flatMap (rowOut w)) → Rd s.h rv 1 w (ints R) → (∀ n ∈ rv.nms, n ∉ v.nms) →
    eget e 1 = .ptr b 0 → eget e 3 = .int .i64 w → eget e 4 = rv → eget e 5 = v → eget e 6 = .int .i64 i →
    Res (run T (.loop B.chaseref07_Draft_Data_l2) e s) fun q e' s' => q = .exit 0 ∧ ∃ rs' : List (List Bool), rs'.length ≤ 50 ∧ (∀ r ∈ rs', r.length = w) ∧ IntsIn s0 s' (eget e' 5) (rs'.flatMap (rowOut w)) := by
  intro m
  induction m with
  | zero =>
    intro i s v rv rs R e hi hrl hrw hR hI hrd hdis g1 g3 g4 g5 g6
    have hbS := hI.frm.ext0.get hx0.wf hb
    have hb1 : rdCell s.h b 1 = some sv := by simp [rdCell, hbS]
    have hD' := hD.rd.ext (hx0.trans hI.frm.ext0) hwf
    have fin : rs.length ≤ 50 ∧ (∀ r ∈ rs, r.length = w) ∧ IntsIn s0 s v (rs.flatMap (rowOut w)) := ⟨by omega, hrw, hI⟩
    rw [run_loop]
    rcases hD' with ⟨h1, h2, h3⟩ | ⟨n, off, cp, h1, h2⟩
    · subst h1
      have : ¬ (i : Int) < 0 := by omega
      simp (disch := omega) [B.chaseref07_Draft_Data_l2, go_sem, g1, g3, g4, g5, g6, hb1, this]
      exact ⟨rs, fin⟩
    · subst h1
      by_cases hik : (i : Int) < kk
      · have h50 : ¬ (i : Int) < 50 := by omega
        simp (disch := omega) [B.chaseref07_Draft_Data_l2, go_sem, g1, g3, g4, g5, g6, hb1, hik, h50]
        exact ⟨rs, fin⟩
      · simp (disch := omega) [B.chaseref07_Draft_Data_l2, go_sem, g1, g3, g4, g5, g6, hb1, hik]
        exact ⟨rs, fin⟩
  | succ m ih =>
    intro i s v rv rs R e hi hrl hrw hR hI hrd hdis g1 g3 g4 g5 g6
    have hbS := hI.frm.ext0.get hx0.wf hb
    have hb1 : rdCell s.h b 1 = some sv := by simp [rdCell, hbS]
    have hik : (i : Int) < kk := by omega
    have h50 : (i : Int) < 50 := by omega
    obtain ⟨n, off, cp, hsv, hrc⟩ := (hD.rd.ext (hx0.trans hI.frm.ext0) hwf).slice (by omega)
    have hlen := rdCells_len hrc
    have hul : (u8s xs).length = xs.length := by simp [u8s]
    have hx3 : i * 3 + 2 < xs.length := by omega
    have hget3 : ∀ j : Nat, j < 3 → (u8s xs)[i * 3 + j]? = some (.int .u8 ((xs.getD (i * 3 + j) 0 : Nat) : Int)) := by
      intro j hj
      have : i * 3 + j < xs.length := by omega
      simp [u8s, List.getD_eq_getElem?_getD, List.getElem?_eq_getElem this]
    have hlt3 : ∀ j : Nat, j < 3 → xs.getD (i * 3 + j) 0 < 256 := by
      intro j hj
      have h : i * 3 + j < xs.length := by omega
      rw [List.getD_eq_getElem?_getD, List.getElem?_eq_getElem h]
      exact hD.lt _ (List.getElem_mem h)
    have hrd3 : rdCells s.h n (off + i * 3) 3 = some [.int .u8 ((xs.getD (i * 3 + 0) 0 : Nat) : Int), .int .u8 ((xs.getD (i * 3 + 1) 0 : Nat) : Int), .int .u8 ((xs.getD (i * 3 + 2) 0 : Nat) : Int)] := by
      obtain ⟨o, ho⟩ := rdCells_some hrc
      have e3 : ((u8s xs).drop (i * 3)).take 3 = [.int .u8 ((xs.getD (i * 3 + 0) 0 : Nat) : Int), .int .u8 ((xs.getD (i * 3 + 1) 0 : Nat) : Int), .int .u8 ((xs.getD (i * 3 + 2) 0 : Nat) : Int)] := by
        apply List.ext_getElem?
        intro j
        rw [List.getElem?_take, List.getElem?_drop]
        by_cases hj : j < 3
        · rw [if_pos hj, hget3 j hj]
          have : j = 0 ∨ j = 1 ∨ j = 2 := by omega
          rcases this with rfl | rfl | rfl <;> rfl
        · rw [if_neg hj, List.getElem?_eq_none (by simp; omega)]
      rw [← e3]
      unfold rdCells at hrc ⊢
      rw [ho] at hrc ⊢
      cases o with
      | cells _ _ cs | buf _ _ cs | ro cs =>
        simp only at hrc ⊢
        split at hrc
        · injection hrc with hrc
          rw [if_pos (by omega), ← hrc]
          congr 1
          rw [List.drop_take, List.drop_drop, List.take_take]
          congr 1
          omega
        · cases hrc
      | _ => cases hrc
    have l0 := hlt3 0 (by omega); have l1 := hlt3 1 (by omega); have l2 := hlt3 2 (by omega)
    generalize xs.getD (i * 3 + 0) 0 = x0 at *
    generalize xs.getD (i * 3 + 1) 0 = x1 at *
    generalize xs.getD (i * 3 + 2) 0 = x2 at *
    have hbx := Ext.new hI.frm.wf (.cells 46 true [.int .u8 (x0 : Int), .int .u8 (x1 : Int), .int .u8 (x2 : Int)])
    have hwA : wrCells ((s.nx, AObj.cells 46 true [.int .u8 0, .int .u8 0, .int .u8 0]) :: s.h) s.nx 0 [.int .u8 (x0 : Int), .int .u8 (x1 : Int), .int .u8 (x2 : Int)] = some ((s.nx, AObj.cells 46 true [.int .u8 (x0 : Int), .int .u8 (x1 : Int), .int .u8 (x2 : Int)]) :: s.h) := by
      have := wr_all (h := (s.nx, AObj.cells 46 true [.int .u8 0, .int .u8 0, .int .u8 0]) :: s.h) (n := s.nx) (ty := 46) (l := true) (cs := [.int .u8 0, .int .u8 0, .int .u8 0]) (vs := [.int .u8 (x0 : Int), .int .u8 (x1 : Int), .int .u8 (x2 : Int)]) (by simp [hget_cons]) rfl rfl
      rw [this, hset_cons, if_pos rfl]
    rw [run_loop]
    simp (disch := omega) [B.chaseref07_Draft_Data_l2, go_sem, g1, g3, g4, g5, g6, hb1, hik, h50, hsv, hrd3, hwA]
    have hrv1 := hrd.ext hbx hI.frm.wf
    refine (Sl.append (st0 := ⟨_, _⟩) (S := []) (k := 0) (cs := []) (.refl hbx.wf _) (.nil _ _) (.nil _ _ _) hrv1 (ints_sc _) (by omega) (by omega) ?_).mono ?_
    · exact .inl (by omega)
    rintro nv s2 ⟨h1, h2, h3, -⟩
    rw [Nat.zero_add, List.nil_append] at h1
    have hI2 : IntsIn ⟨(s.nx, .cells 46 true [.int .u8 (x0 : Int), .int .u8 (x1 : Int), .int .u8 (x2 : Int)]) :: s.h, s.nx + 1⟩ s2 nv R := ⟨h2, by rw [hR]; exact h1, h3⟩
    have hbox2 : hget s2.h s.nx = some (.cells 46 true [.int .u8 (x0 : Int), .int .u8 (x1 : Int), .int .u8 (x2 : Int)]) := h2.get hbx.wf (by simp [hget_cons]) (by simp)
    have q0 : rdCell s2.h s.nx 0 = some (.int .u8 (x0 : Int)) := by simp [rdCell, hbox2]
    have q1 : rdCell s2.h s.nx 1 = some (.int .u8 (x1 : Int)) := by simp [rdCell, hbox2]
    have hw0 : ¬ w = 0 := by omega
    have hm0 : (x0 : Int).tmod w = ((x0 % w : Nat) : Int) := by rw [Int.tmod_eq_emod_of_nonneg (by omega)]; simp
    have hm1 : (x1 : Int).tmod w = ((x1 % w : Nat) : Int) := by rw [Int.tmod_eq_emod_of_nonneg (by omega)]; simp
    obtain ⟨fr, hfr⟩ : ∃ fr, fr = x0 % w := ⟨_, rfl⟩
    obtain ⟨to, hto⟩ : ∃ to, to = x1 % w := ⟨_, rfl⟩
    have htw : to < w := by rw [hto]; exact Nat.mod_lt _ (by omega)
    rw [← hfr] at hm0
    rw [← hto] at hm1
    have hnvn : ∀ n ∈ nv.nms, s.nx + 1 ≤ n := fun n hn => by
      rcases h3 n hn with h | h
      · cases h
      · exact h
    have h2n := h2.nx
    simp only at h2n
    have hE2 : Ext s s2 := hbx.trans h2.ext0
    have hF2' : Frm [] ⟨(s.nx, .cells 46 true [.int .u8 (x0 : Int), .int .u8 (x1 : Int), .int .u8 (x2 : Int)]) :: s.h, s.nx + 1⟩ ⟨s2.h, s2.nx + 12⟩ := Frm.upTo (n := s2.nx) h2 (by omega)
    have hE3 : Ext s ⟨s2.h, s2.nx + 12⟩ := Ext.upTo (n := s2.nx) hE2 (by omega)
    simp (disch := omega) [go_sem, q0, q1, wrap64, hw0, hm0, hm1]
    refine (mark_loop (b := s.nx) (x0 := x0) (x1 := x1) (x2 := x2) H hw' htw l2 (if fr ≤ to then to + 1 - fr else 0) fr ⟨s2.h, s2.nx + 12⟩ nv R _ (by split <;> omega) hR ⟨hF2', by rw [hR]; exact h1, h3⟩ (fun n hn => by have := hnvn n hn; omega) hbox2 ?_ ?_ ?_ ?_ ?_ ?_ ?_ ?_ (u1 := .ptr b 0) (u3 := .int .i64 w) (u5 := v) (u6 := .int .i64 i)).mono ?_
    · simp [go_sem]
    · simp [go_sem]
    · simp [go_sem]
    · simp [go_sem]
    · simp [go_sem]
    · simp [go_sem]
    · simp [go_sem]
    · simp [go_sem]
    rintro q e4 s4 ⟨rfl, ⟨M, hM, hI4⟩, hF4, k1, k3, k5, k6, k8⟩
    have hvlt := hI.sl.rd.lt hI.frm.wf
    have hv4 := (hI.sl.ext hE3 hI.frm.wf).frm hF4 hE3.wf (fun n hn hn' => by have := hvlt n hn; have := hnvn n hn'; omega)
    have hs0n := hI.frm.nx
    have hF04 : Frm [] s0 s4 := ((hI.frm.trans (hE3.fr []) (by simp)).trans hF4 (fun n hn => .inr (by have := hnvn n hn; omega)))
    have hOl := flat_length w rs
    have hOl2 : rs.length * (8 * ((w + 7) / 8)) ≤ 50 * 128 := Nat.mul_le_mul (by omega) (by omega)
    have hnv4 := hI4.sl.rd.lt hI4.frm.wf
    simp (disch := omega) [go_sem, k1, k3, k5, k6, k8]
    refine (Sl.append (st0 := s4) (S := v.nms) (.refl hF04.wf _) (fun n hn => .inl hn) hv4 hI4.sl.rd (ints_sc _) (by omega) (by omega) (.inl (by omega))).mono ?_
    rintro v5 s5 ⟨a1, a2, a3, -⟩
    have hmine5 : Mine [] s0 v5 := a3.mono (fun n hn => by
      rcases hI.mine n hn with h | h
      · cases h
      · exact .inr h) hF04.nx
    have hI5 : IntsIn s0 s5 v5 (rs.flatMap (rowOut w) ++ M) := ⟨hF04.trans a2 (fun n hn => by
      rcases hI.mine n hn with h | h
      · cases h
      · exact .inr h), by rw [List.length_append, ints_append]; exact a1, hmine5⟩
    have hdis5 : ∀ n ∈ nv.nms, n ∉ v5.nms := fun n hn hn' => by
      rcases a3 n hn' with h | h
      · have := hvlt n h; have := hnvn n hn; omega
      · have := hnv4 n hn; omega
    have hnv5 := hI4.sl.rd.frm a2 hI4.frm.wf (fun n hn hn' => by have := hvlt n hn'; have := hnvn n hn; omega)
    simp (disch := omega) [go_sem]
    refine (pad_loop H (u1 := .ptr b 0) (u3 := .int .i64 w) (u6 := .int .i64 i) (u8 := nv) _ s5 v5 (rs.flatMap (rowOut w) ++ M) _ rfl (by rw [List.length_append]; omega) hI5 ?_ ?_ ?_ ?_ ?_).mono ?_
    · simp [go_sem]
    · simp [go_sem]
    · simp [go_sem]
    · simp [go_sem]
    · simp [go_sem]
    rintro q e6 s6 ⟨rfl, b1, b2, b3, b4, b5, b6, b7⟩
    have hO8 : (rs.flatMap (rowOut w)).length % 8 = 0 := by rw [hOl, Nat.mul_left_comm]; exact Nat.mul_mod_right _ _
    rw [pad8_row hO8 hM] at b1
    have hnv6 := hnv5.frm b2 a2.wf hdis5
    have hnv5' := hnv5.lt a2.wf
    simp (disch := omega) [go_sem, b4, b5, b6, b7, wrap64]
    refine ih (i + 1) s6 (eget e6 5) nv (rs ++ [M]) M _ (by omega) (by simp [hrl]) ?_ hM ?_ (by rw [← hM]; exact hnv6) ?_ ?_ ?_ ?_ ?_ ?_
    · intro r hr
      rcases List.mem_append.1 hr with h | h
      · exact hrw r h
      · simp at h; rw [h]; exact hM
    · rw [List.flatMap_append]; simpa using b1
    · intro n hn hn'
      rcases b3 n hn' with h | h
      · exact hdis5 n hn h
      · have := hnv5' n hn; omega
    · simp [go_sem]
    · simp [go_sem]
    · simp [go_sem]
    · simp [go_sem]
    · simp [go_sem]

/-- The octets of a draft: those of some rows of its width. -/
theorem data_tells (H : B.HasFax T) (hwf : st.Wf) {wide kk : Nat} (hwd : wide < 256) {sv : AV} {xs : List Nat} (hD : DraftIn st sv kk xs) (hk : kk < 9223372036854775808) :
    ∃ rs : List (List Bool), rs.length ≤ 50 ∧ (∀ r ∈ rs, r.length = 1 + wide % 128) ∧ Tells T st (.fn 8 [] []) [.agg [.int .u8 wide, sv]] (.str (dataOf (1 + wide % 128) rs)) := by
  obtain ⟨w, hw⟩ : ∃ w, w = 1 + wide % 128 := ⟨_, rfl⟩
  rw [← hw]
  have key : CRes (call T (.fn 8 [] []) [.agg [.int .u8 wide, sv]] st) fun v s => ∃ rs : List (List Bool), rs.length ≤ 50 ∧ (∀ r ∈ rs, r.length = w) ∧ v = .str (dataOf w rs) ∧ Ext st s := by
    refine call_res H.e8 H.f8 rfl ?_
    have hx := Ext.new hwf (.cells 24 true [.int .u8 wide, sv])
    have hbx : hget ((st.nx, AObj.cells 24 true [.int .u8 wide, sv]) :: st.h) st.nx = some (.cells 24 true [.int .u8 wide, sv]) := by simp [hget_cons]
    have hbA := rd_all hbx (k := 2) rfl
    have t1 := width_tells (T := T) H hx.wf hwd (sv := sv)
    rw [← hw] at t1
    simp (disch := omega) [B.chaseref07_Draft_Data, go_sem, hbA]
    refine t1.use fun s1 hs1 => ?_
    have hbs1 := hs1.get hx.wf hbx
    have hlc : ((w : Nat) : Int) * 8 ≤ 140737488355328 ∧ ((w : Nat) : Int) ≤ 140737488355328 := by omega
    have hx2 := Ext.new hs1.wf (.cells 3 false (ints (List.replicate w false)))
    have hx01 := hx.trans hs1
    simp (disch := omega) [go_sem, hlc, reps_zero, -List.reduceReplicate]
    refine (data_loop (b := st.nx) (u0 := .int .u8 wide) (s0 := ⟨(s1.nx, .cells 3 false (ints (List.replicate w false))) :: s1.h, s1.nx + 1⟩) H (by omega) (by omega) hwf hD hk (hx01.trans hx2) (hx2.get hs1.wf hbs1) (min kk 50) 0 ⟨_, _⟩ .nilslice (.slice s1.nx 0 w (.known w)) [] (List.replicate w false) _ (by omega) rfl (fun r hr => by cases hr) (by simp) ⟨.refl hx2.wf _, .nil _ _ _, .nil _ _⟩
      (.inr ⟨s1.nx, 0, .known w, rfl, rd_all (ty := 3) (l := false) (by simp [hget]) (by simp [ints_len])⟩) (fun n h h' => by cases h') ?_ ?_ ?_ ?_ ?_).mono ?_
    · simp [go_sem]
    · simp [go_sem]
    · simp [go_sem]
    · simp [go_sem]
    · simp [go_sem]
    rintro q e s2 ⟨rfl, rs, h1, h2, hI⟩
    have hl := flat_length w rs
    have hl2 : rs.length * (8 * ((w + 7) / 8)) ≤ 50 * 128 := Nat.mul_le_mul h1 (by omega)
    simp (disch := omega) [go_sem]
    refine (pack_tells H hI.frm.wf hI.sl.rd (by omega)).use fun s3 hs3 => ?_
    simp (disch := omega) [go_sem]
    exact ⟨rs, h1, h2, rfl, (((hx01.trans hx2).trans hI.frm.ext0).trans hs3).dropLoc⟩
  obtain ⟨v, s, hc, rs, h1, h2, rfl, h3⟩ := key.elim
  exact ⟨rs, h1, h2, by unfold Tells; rw [hc]; exact ⟨rfl, h3⟩⟩

end Go.Ev

/- The chapter's examples hold. -/
namespace Go.Ev
open Go
set_option linter.unusedSimpArgs false
set_option linter.unusedVariables false

variable {T : Tab} {st : St}

def codesB (s want : List UInt8) : Bool := decide ((encSpec s 8).2 = 0) && seq8 (encSpec s 8).1 ((packN (wordBits want)).map UInt8.ofNat)

theorem codes_loop {w : List UInt8} (hw : ∀ b ∈ w, b = 48 ∨ b = 49) (hlen : w.length < 1000) {u0 : AV} : ∀ (m i : Nat) (s : St) (v : AV) (L : List Bool) (e : Env), i + m = w.length → L.length = i → IntsIn st s v L →
    eget e 0 = u0 → eget e 1 = .str w → eget e 5 = v → eget e 10 = .int .i64 w.length → eget e 11 = .int .i64 i →
    Res (run T (.loop B.chaselaw07_codes_l0) e s) fun q e' s' => q = .exit 0 ∧ IntsIn st s' (eget e' 5) (L ++ wordBits (w.drop i)) ∧ eget e' 0 = u0 := by
  intro m
  induction m with
  | zero =>
    intro i s v L e hi hL hI g0 g1 g5 g10 g11
    have hil : ¬ (i : Int) < w.length := by omega
    have hd : w.drop i = [] := List.drop_eq_nil_of_le (by omega)
    rw [hd, run_loop]
    simp (disch := omega) [B.chaselaw07_codes_l0, go_sem, g0, g1, g5, g10, g11, hil]
    simpa [wordBits] using hI
  | succ m ih =>
    intro i s v L e hi hL hI g0 g1 g5 g10 g11
    have hil : (i : Int) < w.length := by omega
    have hil' : i < w.length := by omega
    have hb := hw w[i] (by simp)
    have hd : wordBits (w.drop i) = (w[i] == 49) :: wordBits (w.drop (i + 1)) := by rw [List.drop_eq_getElem_cons hil']; rfl
    rw [hd]
    have hv8 : IntKind.u8.wrap ((w[i].toNat : Int) - 48) = (((w[i] == 49) : Bool).toNat : Nat) := by rcases hb with h | h <;> rw [h] <;> rfl
    have hv64 : IntKind.i64.wrap (((w[i] == 49) : Bool).toNat : Nat) = (((w[i] == 49) : Bool).toNat : Nat) := by cases (w[i] == 49) <;> rfl
    rw [run_loop]
    simp (disch := omega) [B.chaselaw07_codes_l0, go_sem, g0, g1, g5, g10, g11, hil, hil', hv8, hv64]
    have hI0 := hI.sl
    refine Sl.push hI.frm hI.mine hI0 rfl (by omega) (by omega) fun v' s' hS' hF' hM' _ => ?_
    simp (disch := omega) [go_sem, wrap64]
    refine (ih (i + 1) s' v' (L ++ [w[i] == 49]) _ (by omega) (by simp [hL]) ⟨hF', by rw [List.length_append, ints_append]; exact hS', hM'⟩ ?_ ?_ ?_ ?_ ?_).mono ?_
    · simp [go_sem]
    · simp [go_sem]
    · simp [go_sem]
    · simp [go_sem]
    · simp [go_sem]
    rintro q e2 s2 ⟨rfl, h1, h2⟩
    refine ⟨rfl, ?_, h2⟩
    rw [List.append_assoc] at h1
    exact h1

theorem codes_tells (H : B.HasFax T) (hwf : st.Wf) (h0 : 1 < st.nx) {s w : List UInt8} (hs : s.length < 1000) (hw : ∀ b ∈ w, b = 48 ∨ b = 49) (hlen : w.length < 1000) : Tells T st (.fn 14 [] []) [.str s, .str w] (.bool (codesB s w)) := by
  refine tells_of H.e14 H.f14 rfl ?_
  simp (disch := omega) [B.chaselaw07_codes, go_sem]
  refine (codes_loop hw hlen (u0 := .str s) w.length 0 st .nilslice [] _ (by omega) rfl ⟨.refl hwf _, .nil _ _ _, .nil _ _⟩ ?_ ?_ ?_ ?_ ?_).mono ?_
  · simp [go_sem]
  · simp [go_sem]
  · simp [go_sem]
  · simp [go_sem]
  · simp [go_sem]
  rintro q e s1 ⟨rfl, h1, g0⟩
  rw [List.drop_zero, List.nil_append] at h1
  have hn := h1.frm.nx
  have t1 := encode_tells (T := T) H h1.frm.wf (by omega) s 8 (by omega)
  simp (disch := omega) [go_sem, g0]
  refine t1.use fun s2 hs2 => ?_
  have hE := h1.frm.ext0.trans hs2
  unfold codesB
  generalize encSpec s 8 = V at *
  by_cases hV : V.2 = 0
  · simp (disch := omega) [go_sem, hV]
    refine (pack_tells H hs2.wf (h1.sl.rd.ext hs2 h1.frm.wf) (by rw [wordBits_length]; omega)).use fun s3 hs3 => ?_
    simp (disch := omega) [go_sem, hV]
    exact hE.trans hs3
  · simp (disch := omega) [go_sem, hV]
    exact hE

theorem ex1 : codesB [] [48, 48, 48, 48, 48, 48, 48, 49] = true := by decide +kernel
theorem ex2 : codesB [0] [49, 48, 48, 48, 48, 48, 48, 48, 49] = true := by decide +kernel
theorem ex3 : codesB [96] [48, 48, 49, 48, 49, 48, 48, 49, 49, 49, 48, 48, 48, 48, 48, 48, 48, 49] = true := by decide +kernel
theorem ex4 : codesB [96, 112] [48, 48, 49, 48, 49, 48, 48, 49, 49, 49, 49, 48, 49, 49, 49, 48, 48, 48, 48, 48, 48, 48, 49] = true := by decide +kernel
theorem ex5 : codesB [48, 0] [48, 48, 49, 48, 49, 49, 48, 49, 49, 49, 48, 48, 48, 49, 49, 48, 48, 48, 48, 48, 48, 48, 49] = true := by decide +kernel
theorem ex6 : decSpec [128, 128, 9] 8 = ([0], 2, 0) := by decide +kernel
theorem ex7 : decSpec [1] 8 = ([], 1, 0) := by decide +kernel
theorem ex8 : (decSpec [128, 129] 8).2.2 = 5 := by decide +kernel
theorem ex9 : (decSpec [] 8).2.2 = 5 := by decide +kernel
theorem ex10 : (decSpec [0] 8).2.2 = 5 := by decide +kernel
theorem ex11 : (encSpec [] 129).2 = 2 := by decide +kernel

theorem works_loop (H : B.HasFax T) (h0 : 1 < st.nx) {u1 u2 u3 u4 u5 u6 u7 : AV} : ∀ (m i : Nat) (s : St) (e : Env), i + m = 3 → Ext st s →
    eget e 1 = u1 → eget e 2 = u2 → eget e 3 = u3 → eget e 4 = u4 → eget e 5 = u5 → eget e 6 = u6 → eget e 7 = u7 → eget e 38 = .agg [.str [128, 129], .str [], .str [0]] → eget e 39 = .int .i64 i →
    Res (run T (.loop B.chaselaw07_works_l0) e s) fun q e' s' => q = .exit 0 ∧ Ext st s' ∧ eget e' 1 = u1 ∧ eget e' 2 = u2 ∧ eget e' 3 = u3 ∧ eget e' 4 = u4 ∧ eget e' 5 = u5 ∧ eget e' 6 = u6 ∧ eget e' 7 = u7 := by
  intro m
  induction m with
  | zero =>
    intro i s e hi hx g1 g2 g3 g4 g5 g6 g7 g38 g39
    have hil : ¬ (i : Int) < 3 := by omega
    rw [run_loop]
    simp (disch := omega) [B.chaselaw07_works_l0, go_sem, g1, g2, g3, g4, g5, g6, g7, g38, g39, hil]
    exact hx
  | succ m ih =>
    intro i s e hi hx g1 g2 g3 g4 g5 g6 g7 g38 g39
    have hil : (i : Int) < 3 := by omega
    have hn := hx.nx
    obtain ⟨x, hx1, hx2, hx3⟩ : ∃ x : List UInt8, [AV.str [128, 129], .str [], .str [0]][i]? = some (.str x) ∧ x.length < 10 ∧ (decSpec x 8).2.2 = 5 := by
      have : i = 0 ∨ i = 1 ∨ i = 2 := by omega
      rcases this with rfl | rfl | rfl
      · exact ⟨_, rfl, by decide, ex8⟩
      · exact ⟨_, rfl, by decide, ex9⟩
      · exact ⟨_, rfl, by decide, ex10⟩
    have t1 := decode_tells (T := T) H hx.wf (by omega) x 8 (by omega)
    rw [hx3] at t1
    rw [run_loop]
    simp (disch := omega) [B.chaselaw07_works_l0, go_sem, g1, g2, g3, g4, g5, g6, g7, g38, g39, hil, hx1]
    refine t1.use fun s1 hs1 => ?_
    simp (disch := omega) [go_sem, wrap64]
    refine ih (i + 1) s1 _ (by omega) (hx.trans hs1) ?_ ?_ ?_ ?_ ?_ ?_ ?_ ?_ ?_
    all_goals simp [go_sem]

theorem works_tells (H : B.HasFax T) (hwf : st.Wf) (h0 : 1 < st.nx) : Tells T st (.fn 6 [] []) [] (.bool true) := by
  refine tells_of H.e6 H.f6 rfl ?_
  have c1 := codes_tells (T := T) H hwf h0 (s := []) (w := [48, 48, 48, 48, 48, 48, 48, 49]) (by decide) (by decide) (by decide)
  rw [ex1] at c1
  simp (disch := omega) [B.chaselaw07_works, go_sem]
  refine c1.use fun s1 hs1 => ?_
  have n1 := hs1.nx
  have c2 := codes_tells (T := T) H hs1.wf (by omega) (s := [0]) (w := [49, 48, 48, 48, 48, 48, 48, 48, 49]) (by decide) (by decide) (by decide)
  rw [ex2] at c2
  simp (disch := omega) [go_sem]
  refine c2.use fun s2 hs2 => ?_
  have n2 := hs2.nx
  have c3 := codes_tells (T := T) H hs2.wf (by omega) (s := [96]) (w := [48, 48, 49, 48, 49, 48, 48, 49, 49, 49, 48, 48, 48, 48, 48, 48, 48, 49]) (by decide) (by decide) (by decide)
  rw [ex3] at c3
  simp (disch := omega) [go_sem]
  refine c3.use fun s3 hs3 => ?_
  have n3 := hs3.nx
  have c4 := codes_tells (T := T) H hs3.wf (by omega) (s := [96, 112]) (w := [48, 48, 49, 48, 49, 48, 48, 49, 49, 49, 49, 48, 49, 49, 49, 48, 48, 48, 48, 48, 48, 48, 49]) (by decide) (by decide) (by decide)
  rw [ex4] at c4
  simp (disch := omega) [go_sem]
  refine c4.use fun s4 hs4 => ?_
  have n4 := hs4.nx
  have c5 := codes_tells (T := T) H hs4.wf (by omega) (s := [48, 0]) (w := [48, 48, 49, 48, 49, 49, 48, 49, 49, 49, 48, 48, 48, 49, 49, 48, 48, 48, 48, 48, 48, 48, 49]) (by decide) (by decide) (by decide)
  rw [ex5] at c5
  simp (disch := omega) [go_sem]
  refine c5.use fun s5 hs5 => ?_
  have n5 := hs5.nx
  have d1 := decode_tells (T := T) H hs5.wf (by omega) [128, 128, 9] 8 (by decide)
  rw [ex6] at d1
  simp (disch := omega) [go_sem]
  refine d1.use fun s6 hs6 => ?_
  have n6 := hs6.nx
  have d2 := decode_tells (T := T) H hs6.wf (by omega) [1] 8 (by decide)
  rw [ex7] at d2
  simp (disch := omega) [go_sem]
  refine d2.use fun s7 hs7 => ?_
  have n7 := hs7.nx
  have hE7 := (((((hs1.trans hs2).trans hs3).trans hs4).trans hs5).trans hs6).trans hs7
  simp (disch := omega) [go_sem]
  refine (works_loop H h0 (u1 := .bool true) (u2 := .str [0]) (u3 := .int .i64 2) (u4 := .int .i64 0) (u5 := .str []) (u6 := .int .i64 1) (u7 := .int .i64 0) 3 0 s7 _ (by omega) hE7 ?_ ?_ ?_ ?_ ?_ ?_ ?_ ?_ ?_).mono ?_
  iterate 9 · simp [go_sem]
  rintro q e s8 ⟨rfl, hE8, g1, g2, g3, g4, g5, g6, g7⟩
  have n8 := hE8.nx
  have t3 := encode_tells (T := T) H hE8.wf (by omega) [] 129 (by decide)
  rw [ex11] at t3
  simp (disch := omega) [go_sem, g1, g2, g3, g4, g5, g6, g7]
  refine t3.use fun s9 hs9 => ?_
  simp (disch := omega) [go_sem, seq8]
  exact hE8.trans hs9

end Go.Ev

/- A draft among the arguments: what it holds, and the names of its blocks. -/
namespace Go.Ev
open Go Go.RowKit Go.ChangeShapes Go.WideShapes Go.Deep Go.Joins
set_option linter.unusedVariables false
set_option linter.unusedSimpArgs false

/-- One block that is only read. -/
def nuOne (a : Addr) : Nu := ⟨fun n => if n = 2 then some a else none, fun _ => 0⟩
def stOne (cs : List AV) : St := ⟨[(2, .ro cs)], 3⟩

theorem stOne_wf (cs : List AV) : (stOne cs).Wf := ⟨(fun n o h => by
  simp only [stOne, hget] at h ⊢
  split at h
  · rename_i e; omega
  · cases h), (by simp [stOne])⟩
theorem stNone_wf (n : Nat) : St.Wf ⟨[], n⟩ := ⟨(fun n o h => by cases h), (by simp)⟩

theorem sr_one {X : Cx} {w : World} {a : Addr} {cs : List AV} {us : Array Value} {t : TypeId} {fz : Nat × Nat} (hb : w.heap[a.block]? = some (.cells us t fz))
    (hc : ∀ (i : Nat) (x : AV), cs[i]? = some x → ∃ u, w.cell? ⟨a.block, a.off + i, none⟩ = some u ∧ VR X (nuOne a) x u) : SR chkD X (nuOne a) (stOne cs) w := by
  refine ⟨⟨?_, ?_⟩, ?_⟩
  · intro n o h
    simp only [stOne, hget] at h
    split at h
    · rename_i e
      subst e
      injection h with h
      subst h
      exact ⟨a, by simp [nuOne], ⟨us, t, fz, hb⟩, hc⟩
    · cases h
  · intro n m o p x y h1 h2 h3
    simp only [stOne, hget] at h1
    split at h1
    · injection h1 with h1; subst h1; cases h3
    · cases h1
  · intro n hn
    simp only [stOne] at hn
    simp only [nuOne]
    rw [if_neg (by omega)]
theorem own_one {a : Addr} {cs : List AV} (b : Nat) : ¬ Own (nuOne a) (stOne cs).h b := fun ⟨n, o, x, h1, h2, _⟩ => by
  simp only [stOne, hget] at h1
  split at h1
  · injection h1 with h1; subst h1; cases h2
  · cases h1

theorem wf_u8 {n : Int} (h : (Lit.int .u8 n).wf = true) : 0 ≤ n ∧ n < 256 := by
  simp [Lit.wf, IntKind.min, IntKind.max, IntKind.signed, IntKind.bits] at h
  omega

section
variable {H : Type} {enc : TypeId × Value → H} {P : Program} {w : World} {base : Nat} {spare : Nat → Bool} {held : Bool}

/-- Three octets of an array. -/
theorem octets3 {te tb : TypeId} {fuel : Nat} {cs : List Value} {x : DataW H × List MemPlace} (ht : P.underlying te = some (.array 3 tb)) (hb : P.underlying tb = some (.int .u8)) (hc : P.cellsOf tb = 1) (hce : P.cellsOf te = 3)
    (h : DataW.trod enc P w base spare held fuel te cs = some x) : cs.length = 3 ∧ ∀ i, i < 3 → ∃ n : Nat, n < 256 ∧ cs[i]? = some (.int .u8 (n : Int)) := by
  obtain ⟨xs, m, _, _, hl, hxl, hel⟩ := DataW.trod_array ht h
  refine ⟨by rw [hl, hce], fun i hi => ?_⟩
  have h1 := hel i hi
  rw [hc, Nat.mul_one, List.getElem?_eq_getElem (by omega)] at h1
  obtain ⟨n, h2, _, h3⟩ := DataW.trod_int hb h1
  have h4 := wf_u8 h3
  obtain ⟨k, rfl⟩ := Int.eq_ofNat_of_zero_le h4.1
  refine ⟨k, by omega, ?_⟩
  have h5 := congrArg (·[0]?) h2
  simp only [List.getElem?_take, List.getElem?_drop] at h5
  simpa using h5

theorem draft_open {X : Cx} {r : Reach} {b0 : Nat} {t tb tsl te : TypeId} {f0 f1 : Field} {v : Value} {d : DataW H} {p : List MemPlace} (hP : X.P = P) (hs : P.underlying t = some (.struct #[f0, f1])) (hone : oneCellFields P #[f0, f1] = true) (hC : P.cellsOf t = 2)
    (hf0 : f0.type = tb) (hf1 : f1.type = tsl) (hb : P.underlying tb = some (.int .u8)) (hbc : P.cellsOf tb = 1) (hsl : P.underlying tsl = some (.slice te)) (hte : P.underlying te = some (.array 3 tb)) (htc : P.cellsOf te = 3) (hct : P.cellTypes P.depth t = some [tb, tsl])
    (hv : Value.okWide P w r b0 t v) (h : DataW.Trod enc P w base spare held t v d p) :
    ∃ (wide : Nat) (N : Nu) (st : St) (sv : AV) (kk : Nat) (xs : List Nat), wide < 256 ∧ SR chkD X N st w ∧ st.Wf ∧ 1 < st.nx ∧ (∀ b, ¬ Own N st.h b) ∧ DraftIn st sv kk xs ∧ kk < 9223372036854775808 ∧ VR X N (.agg [.int .u8 (wide : Int), sv]) v := by
  have hvv := hv
  obtain ⟨v0, v1, y0, y1, n, rfl, rfl, rfl, h0, h1⟩ := open_agg2 hs hone hC hv h
  rw [hf0] at h0
  rw [hf1] at h1
  obtain ⟨n0, e0, _, e1⟩ := DataW.trod_int hb h0
  have e2 := wf_u8 e1
  obtain ⟨wide, rfl⟩ := Int.eq_ofNat_of_zero_le e2.1
  simp only [List.cons.injEq, and_true] at e0
  subst e0
  rcases open_slice hsl h1 with ⟨hcs, _⟩ | ⟨a, len, cap, m, n2, D, Pl, hcs, hba, hl, hm, hmm, _, hel⟩
  · simp only [List.cons.injEq, and_true] at hcs
    subst hcs
    refine ⟨wide, Nu.none, ⟨[], 3⟩, .nilslice, 0, [], by omega, sr_none 3 w, stNone_wf 3, by decide, own_none, ⟨.inl ⟨rfl, rfl, rfl⟩, fun x hx => by cases hx⟩, by decide, ?_⟩
    exact ⟨_, rfl, _, _, rfl, rfl, _, _, rfl, rfl, rfl⟩
  · simp only [List.cons.injEq, and_true] at hcs
    subst hcs
    -- the address
    have hcell : Cell.okWide P w r b0 tsl (.slice (some a) len cap) := by
      simp only [Value.okWide, hs] at hvv
      obtain ⟨cs, hcs, _, ts, h3, _, h4⟩ := hvv
      rw [hct] at h3
      injection h3 with h3
      subst h3
      injection hcs with hcs
      subst hcs
      obtain ⟨u, h5, h6⟩ := h4 1 _ rfl
      simp at h5
      subst h5
      exact h6
    have hhas : a.spot = none ∧ ∃ us tt fz, w.heap[a.block]? = some (.cells us tt fz) := by
      simp only [Cell.okWide, hsl, Cell.ok, World.has] at hcell
      obtain ⟨_, _, _, h3, row, cells, h4, _⟩ := hcell
      refine ⟨h3, ?_⟩
      unfold World.shape? at h4
      split at h4
      · exact ⟨_, _, _, by assumption⟩
      · cases h4
    obtain ⟨hsp, us, tt, fz, hheap⟩ := hhas
    obtain ⟨blk, off, spot⟩ := a
    simp only at hsp
    subst hsp
    have hmlen : len ≤ m := by rw [hmm]; split <;> omega
    have hoct : ∀ j, j < len * 3 → ∃ x : Nat, x < 256 ∧ w.cell? ⟨blk, off + j, none⟩ = some (.int .u8 (x : Int)) := by
      intro j hj
      obtain ⟨cs', h3, h4⟩ := hel (j / 3) (by omega)
      rw [htc] at h3
      obtain ⟨h5, h6⟩ := octets3 hte hb hbc htc h4
      obtain ⟨x, h7, h8⟩ := h6 (j % 3) (by omega)
      obtain ⟨_, _, h9⟩ := World.cells?_some h3
      have h10 := h9 (j % 3) (by omega)
      rw [h8, Deep.add_add] at h10
      refine ⟨x, h7, ?_⟩
      rw [show j / 3 * 3 + j % 3 = j by omega] at h10
      unfold Addr.add at h10
      split at h10
      · rename_i hj0; rw [hj0]; exact h10
      · exact h10
    obtain ⟨f, hf⟩ := Deep.choose_lt (α := Nat) (p := fun j x => x < 256 ∧ w.cell? ⟨blk, off + j, none⟩ = some (.int .u8 (x : Int))) hoct
    let xs : List Nat := (List.range (len * 3)).map f
    have hxs : (u8s xs).length = len * 3 := by simp [u8s, xs]
    refine ⟨wide, nuOne ⟨blk, off, none⟩, stOne (u8s xs), .slice 2 0 len .unk, len, xs, by omega, ?_, stOne_wf _, (show 1 < 3 by decide), own_one, ⟨.inr ⟨2, 0, .unk, rfl, ?_⟩, ?_⟩, ?_, ?_⟩
    · refine sr_one hheap (fun i x hx => ?_)
      have hi : i < len * 3 := by rw [← hxs]; exact (List.getElem?_eq_some_iff.1 hx).1
      have hx' : x = .int .u8 ((f i : Nat) : Int) := by
        simp [u8s, xs, hi] at hx
        exact hx.symm
      subst hx'
      exact ⟨_, (hf i hi).2, rfl⟩
    · simp only [rdCells, stOne, hget, if_pos]
      rw [if_pos (by omega), List.drop_zero, List.take_of_length_le (by omega)]
    · intro x hx
      obtain ⟨j, hj, rfl⟩ := List.mem_map.1 hx
      exact (hf j (List.mem_range.1 hj)).1
    · have : maxLen ≤ 9223372036854775807 := by decide
      omega
    · exact ⟨_, rfl, _, _, rfl, rfl, _, _, rfl, ⟨⟨blk, off, none⟩, cap, rfl, rfl, hl, trivial⟩, rfl⟩

end
end Go.Ev
