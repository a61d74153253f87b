/- The law FaxBack on the evaluator. -/
import Derived.Test.YtglndmkmfhafhaaEvFaxI
import Derived.Test.YtglndmkmfhafhaaEvFaxLaw1
namespace Go.Ev
open Go
set_option linter.unusedSimpArgs false
set_option linter.unusedVariables false

variable {T : Tab} {st : St}

theorem back_loop (H : B.HasFax T) (h0 : 1 < st.nx) {x : List UInt8} {w N : Nat} (hxl : x.length ≤ 65536) (hN : N ≤ x.length) (hd : ∀ i, i < N → (decSpec (x.take i) w).2.2 = 5) : ∀ (m i : Nat) (s : St) (e : Env), i + m = N → Ext st s →
    eget e 6 = .int .i64 w → eget e 7 = .str x → eget e 60 = .int .i64 N → eget e 61 = .int .i64 i →
    Res (run T (.loop B.chaselaw07_FaxBack_l0) e s) fun q e' s' => q = .exit 0 ∧ Ext st s' := by
  intro m
  induction m with
  | zero =>
    intro i s e hi hx g6 g7 g60 g61
    have hil : ¬ (i : Int) < N := by omega
    rw [run_loop]
    simp (disch := omega) [B.chaselaw07_FaxBack_l0, go_sem, g6, g7, g60, g61, hil]
    exact hx
  | succ m ih =>
    intro i s e hi hx g6 g7 g60 g61
    have hil : (i : Int) < N := by omega
    have hn := hx.nx
    have hsub : asubS x none (some (.int .i64 i)) = some (.str (x.take i)) := by
      have := asubS_to (s := x) (j := (i : Int)) (k := .i64) (by omega) (by omega)
      simpa using this
    have t := decode_tells (T := T) H hx.wf (by omega) (x.take i) w (by rw [List.length_take]; omega)
    rw [hd i (by omega)] at t
    rw [run_loop]
    simp (disch := omega) [B.chaselaw07_FaxBack_l0, go_sem, g6, g7, g60, g61, hil, hsub]
    refine t.use fun s1 hs1 => ?_
    simp (disch := omega) [go_sem, g6, g7, g60, g61, wrap64]
    refine ih (i + 1) s1 _ (by omega) (hx.trans hs1) ?_ ?_ ?_ ?_
    · simp [go_sem, g6]
    · simp [go_sem, g7]
    · simp [go_sem, g60]
    · simp [go_sem]

theorem faxBack_law (H : B.HasFax T) (hwf : st.Wf) (h0 : 1 < st.nx) {s : List UInt8} {wide kk : Nat} (hs : s.length < 4611686018427387904) (hwd : wide < 256) {sv : AV} {xs : List Nat} (hD : DraftIn st sv kk xs) (hk : kk < 9223372036854775808) :
    Tells T st (.fn 2 [] []) [.agg [.int .u8 wide, sv], .str s] (.bool true) := by
  refine tells_of H.e2 H.f2 rfl ?_
  have hx := Ext.new hwf (.cells 24 true [.int .u8 wide, sv])
  have hbx : hget ((st.nx, AObj.cells 24 true [.int .u8 wide, sv]) :: st.h) st.nx = some (.cells 24 true [.int .u8 wide, sv]) := by simp [hget_cons]
  simp (disch := omega) [B.chaselaw07_FaxBack, go_sem]
  refine (works_tells H hx.wf (by simp only; omega)).use fun s1 hs1 => ?_
  have n1 := hs1.nx
  simp only at n1
  have hbx1 := hs1.get hx.wf hbx
  have hbA1 := rd_all hbx1 (k := 2) rfl
  have hD1 : ∀ {s' : St}, Ext st s' → DraftIn s' sv kk xs := fun h => ⟨hD.rd.ext h hwf, hD.lt⟩
  have hE1 := hx.trans hs1
  have hx2 := Ext.aside hs1.wf 7
  have hE1 := hE1.trans hx2
  obtain ⟨rs, h1, h2, h3⟩ := data_tells (T := T) H hE1.wf hwd (hD1 hE1) hk
  have hdl := dataOf_length (w := 1 + wide % 128) (rs := rs) (by omega) h1
  have t3 : ∀ {s : St}, s.Wf → Tells T s (.fn 7 [] []) [.agg [.int .u8 wide, sv]] (.int .i64 ((1 + wide % 128 : Nat) : Int)) := fun h => width_tells H h hwd
  obtain ⟨w, hw⟩ : ∃ w, w = 1 + wide % 128 := ⟨_, rfl⟩
  rw [← hw] at h2 h3 hdl t3
  have hcl : (codeOf w rs).length ≤ 258000 := by
    have := codeRows_length (w := w) (by omega) (by omega) rs (List.replicate w false)
    unfold codeOf
    omega
  obtain ⟨x, hx'⟩ : ∃ x, x = (packN (codeOf w rs ++ bitsMS 1 8)).map UInt8.ofNat := ⟨_, rfl⟩
  have hxl : x.length = ((codeOf w rs).length + 15) / 8 := by
    rw [hx', List.length_map, packN_length, List.length_append, bitsMS_length]
  have henc := encSpec_data (w := w) (by omega) (by omega) h2 (by omega) (by omega)
  rw [← hx'] at henc
  have hpre := fun i (hi : i < x.length) => decSpec_prefix (w := w) (by omega) (by omega) h2 (by omega) (hx' ▸ hi)
  rw [← hx'] at hpre
  obtain ⟨mn, hmn⟩ : ∃ mn : Int, mn = (if (50 : Int) < (s.length : Int) then (50 : Int) else (s.length : Int)) := ⟨_, rfl⟩
  have hsub : asubS s none (some (.int .i64 mn)) = some (.str (s.take mn.toNat)) := asubS_to (by rw [hmn]; split <;> omega) (by rw [hmn]; split <;> omega)
  have hst : (s.take mn.toNat).length ≤ 50 := by rw [List.length_take, hmn]; split <;> omega
  generalize s.take mn.toNat = more at *
  have hdec := decSpec_code (w := w) (by omega) (by omega) h2 (more := more) (by omega)
  have hmul : rs.length * ((w + 7) / 8) ≤ 50 * 16 := Nat.mul_le_mul h1 (by omega)
  rw [← hx', if_neg (by omega), ← hxl] at hdec
  generalize dataOf w rs = data at *
  simp (disch := omega) [go_sem, hbA1]
  refine h3.use fun s2 hs2 => ?_
  have hE2 := hE1.trans hs2
  have hbA2 := rd_all ((hx2.trans hs2).get hs1.wf hbx1) (k := 2) rfl
  simp (disch := omega) [go_sem]
  refine ⟨by simp [reI, dfind, wanted, go_sem, hbA2], ?_⟩
  refine (t3 hs2.wf).use fun s3 hs3 => ?_
  have hE3 := hE2.trans hs3
  have n3 := hE3.nx
  have t4 := encode_tells (T := T) H hE3.wf (by omega) data w (by omega)
  rw [henc] at t4
  simp (disch := omega) [go_sem]
  refine t4.use fun s4 hs4 => ?_
  have hE4 := hE3.trans hs4
  have n4 := hE4.nx
  have t5 := decode_tells (T := T) H hE4.wf (by omega) (x ++ more) w (by rw [List.length_append]; omega)
  rw [hdec] at t5
  have hse : seq8 data data = true := seq8_iff.2 rfl
  have hmn' : (if (50 : Int) < s.length then 50 else (s.length : Int)) = mn := hmn.symm
  have hcat : x.length + more.length < 4611686018427387904 := by omega
  simp (disch := omega) [go_sem, hmn', hsub, hcat]
  refine t5.use fun s5 hs5 => ?_
  have hE5 := hE4.trans hs5
  simp (disch := omega) [go_sem, hse]
  obtain ⟨N, hN⟩ : ∃ N : Nat, (N : Int) = (if (200 : Int) < (x.length : Int) then (200 : Int) else (x.length : Int)) := ⟨if 200 < x.length then 200 else x.length, by split <;> split <;> omega⟩
  have hN' : (if (200 : Int) < (x.length : Int) then (200 : Int) else (x.length : Int)) = N := hN.symm
  have hNl : N ≤ x.length := by split at hN <;> omega
  have n5 := hE5.nx
  simp only [hN']
  refine (back_loop (w := w) (x := x) (N := N) H (st := s5) (by omega) (by omega) hNl (fun i hi => hpre i (by omega)) N 0 s5 _ (by omega) (.refl hE5.wf) ?_ ?_ ?_ ?_).mono ?_
  · simp [go_sem]
  · simp [go_sem]
  · simp [go_sem]
  · simp [go_sem]
  rintro q e s6 ⟨rfl, h6⟩
  simp (disch := omega) [go_sem]
  exact hE5.trans h6

end Go.Ev
