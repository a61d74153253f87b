/- The law FaxEncodes on the evaluator. -/
import Derived.Test.YtglndmkmfhafhaaEvFaxG
namespace Go.Ev
open Go
set_option linter.unusedSimpArgs false
set_option linter.unusedVariables false

variable {T : Tab} {st : St}

theorem asubS_to {s : List UInt8} {j : Int} {k : IntKind} (h0 : 0 ≤ j) (h1 : j ≤ s.length) : asubS s none (some (.int k j)) = some (.str (s.take j.toNat)) := by
  simp only [asubS, abounds, bnd, abound]
  rw [if_pos ⟨h0, h1⟩]
  simp

theorem encodes_loop (H : B.HasFax T) (hwf : st.Wf) (h0 : 1 < st.nx) {a : Nat → List UInt8} {b : Nat → Int} (ha : ∀ i, (a i).length < 4611686018427387904) : ∀ (m i : Nat) (s : St) (e : Env), i + m = 3 → Ext st s →
    eget e 32 = .agg [.str (a 0), .int .i64 (b 0), .str (a 1), .int .i64 (b 1), .str (a 2), .int .i64 (b 2)] → eget e 33 = .int .i64 i →
    Res (run T (.loop B.chaselaw07_FaxEncodes_l0) e s) fun q e' s' => q = .exit 0 ∧ Ext st s' := by
  intro m
  induction m with
  | zero =>
    intro i s e hi hx g32 g33
    have hil : ¬ (i : Int) < 3 := by omega
    rw [run_loop]
    simp (disch := omega) [B.chaselaw07_FaxEncodes_l0, go_sem, g32, g33, hil]
    exact hx
  | succ m ih =>
    intro i s e hi hx g32 g33
    have hil : (i : Int) < 3 := by omega
    have hn := hx.nx
    have hap : List.take 2 (List.drop (i * 2) [AV.str (a 0), .int .i64 (b 0), .str (a 1), .int .i64 (b 1), .str (a 2), .int .i64 (b 2)]) = [.str (a i), .int .i64 (b i)] := by
      have : i = 0 ∨ i = 1 ∨ i = 2 := by omega
      rcases this with rfl | rfl | rfl <;> rfl
    have hi4 : i * 2 ≤ 4 := by omega
    have hbx := Ext.new hx.wf (.cells 26 true [.str (a i), .int .i64 (b i)])
    have hg : hget ((s.nx, AObj.cells 26 true [.str (a i), .int .i64 (b i)]) :: s.h) s.nx = some (.cells 26 true [.str (a i), .int .i64 (b i)]) := by simp [hget_cons]
    have hwA : wrCells ((s.nx, AObj.cells 26 true [.str [], .int .i64 0]) :: s.h) s.nx 0 [.str (a i), .int .i64 (b i)] = some ((s.nx, AObj.cells 26 true [.str (a i), .int .i64 (b i)]) :: s.h) := by
      have := wr_all (h := (s.nx, AObj.cells 26 true [.str [], .int .i64 0]) :: s.h) (n := s.nx) (ty := 26) (l := true) (cs := [.str [], .int .i64 0]) (vs := [.str (a i), .int .i64 (b i)]) (by simp [hget_cons]) rfl rfl
      rw [this, hset_cons, if_pos rfl]
    have q0 : rdCell ((s.nx, AObj.cells 26 true [.str (a i), .int .i64 (b i)]) :: s.h) s.nx 0 = some (.str (a i)) := by simp [rdCell, hg]
    have q1 : rdCell ((s.nx, AObj.cells 26 true [.str (a i), .int .i64 (b i)]) :: s.h) s.nx 1 = some (.int .i64 (b i)) := by simp [rdCell, hg]
    have t1 := encode_tells (T := T) H hbx.wf (by simp only; omega) (a i) (b i) (ha i)
    rw [run_loop]
    simp (disch := omega) [B.chaselaw07_FaxEncodes_l0, go_sem, g32, g33, hil, hap, hi4, hwA, q0, q1]
    refine t1.use fun s1 hs1 => ?_
    have hg1 := hs1.get hbx.wf hg
    have p0 : rdCell s1.h s.nx 0 = some (.str (a i)) := by simp [rdCell, hg1]
    have p1 : rdCell s1.h s.nx 1 = some (.int .i64 (b i)) := by simp [rdCell, hg1]
    simp (disch := omega) [go_sem, p0, p1]
    refine (refenc_tells H hs1.wf (a i) (b i) (ha i)).use fun s2 hs2 => ?_
    have hse : seq8 (encSpec (a i) (b i)).1 (encSpec (a i) (b i)).1 = true := seq8_iff.2 rfl
    simp (disch := omega) [go_sem, hse, wrap64]
    refine ih (i + 1) s2 _ (by omega) (((hx.trans hbx).trans hs1).trans hs2) ?_ ?_
    · simp [go_sem]
    · simp [go_sem]

theorem dataOf_length {w : Nat} {rs : List (List Bool)} (hw : w ≤ 128) (h : rs.length ≤ 50) : (dataOf w rs).length ≤ 800 := by
  have hl := flat_length w rs
  have hl2 : rs.length * (8 * ((w + 7) / 8)) ≤ 50 * 128 := Nat.mul_le_mul h (by omega)
  simp only [dataOf, List.length_map, packN_length]
  omega

theorem faxEncodes_law (H : B.HasFax T) (hwf : st.Wf) (h0 : 1 < st.nx) {s : List UInt8} {w : Int} {wide kk : Nat} (hs : s.length < 4611686018427387904) (hwd : wide < 256) {sv : AV} {xs : List Nat} (hD : DraftIn st sv kk xs) (hk : kk < 9223372036854775808) :
    Tells T st (.fn 0 [] []) [.str s, .int .i64 w, .agg [.int .u8 wide, sv]] (.bool true) := by
  refine tells_of H.e0 H.f0 rfl ?_
  have hx := Ext.new hwf (.cells 24 true [.int .u8 wide, sv])
  have hbx : hget ((st.nx, AObj.cells 24 true [.int .u8 wide, sv]) :: st.h) st.nx = some (.cells 24 true [.int .u8 wide, sv]) := by simp [hget_cons]
  simp (disch := omega) [B.chaselaw07_FaxEncodes, go_sem]
  refine (works_tells H hx.wf (by simp only; omega)).use fun s1 hs1 => ?_
  have n1 := hs1.nx
  simp only at n1
  obtain ⟨mn, hmn⟩ : ∃ mn : Int, mn = (if (200 : Int) < (s.length : Int) then (200 : Int) else (s.length : Int)) := ⟨_, rfl⟩
  have hsub : asubS s none (some (.int .i64 mn)) = some (.str (s.take mn.toNat)) := asubS_to (by rw [hmn]; split <;> omega) (by rw [hmn]; split <;> omega)
  have hmn' : (if (200 : Int) < s.length then 200 else (s.length : Int)) = mn := hmn.symm
  have hst : (s.take mn.toNat).length < 4611686018427387904 := by rw [List.length_take]; omega
  generalize s.take mn.toNat = s0 at *
  have hbx1 := hs1.get hx.wf hbx
  have hbA1 := rd_all hbx1 (k := 2) rfl
  have hx2 := Ext.aside hs1.wf 17
  have hD1 : ∀ {s' : St}, Ext st s' → DraftIn s' sv kk xs := fun h => ⟨hD.rd.ext h hwf, hD.lt⟩
  have hE1 := hx.trans hs1
  simp (disch := omega) [go_sem, hmn', hsub, hbA1]
  refine (width_tells (st := ⟨_, _⟩) H hx2.wf hwd (sv := sv)).use fun s2 hs2 => ?_
  have hbA2 := rd_all ((hx2.trans hs2).get hs1.wf hbx1) (k := 2) rfl
  simp (disch := omega) [go_sem]
  refine ⟨by simp [reI, dfind, wanted, go_sem, hbA2], by simp [reI, dfind, wanted, go_sem, hbA2], ?_⟩
  have hE2 := (hE1.trans hx2).trans hs2
  obtain ⟨rs, h1, h2, h3⟩ := data_tells (T := T) H hE2.wf hwd (hD1 hE2) hk
  refine h3.use fun s3 hs3 => ?_
  have hbA3 := rd_all (((hx2.trans hs2).trans hs3).get hs1.wf hbx1) (k := 2) rfl
  simp (disch := omega) [go_sem]
  refine ⟨by simp [reI, dfind, wanted, go_sem, hbA3], ?_⟩
  refine (width_tells H hs3.wf hwd (sv := sv)).use fun s4 hs4 => ?_
  have hE4 := (hE2.trans hs3).trans hs4
  have hn4 := hE4.nx
  have hdl := dataOf_length (w := 1 + wide % 128) (rs := rs) (by omega) h1
  simp (disch := omega) [go_sem]
  refine (encodes_loop H hE4.wf (by omega) (a := fun i => if i = 0 then s0 else if i = 1 then s0 else dataOf (1 + wide % 128) rs) (b := fun i => if i = 0 then w else ((1 + wide % 128 : Nat) : Int)) (fun i => by split; exact hst; split; exact hst; omega) 3 0 s4 _ (by omega) (.refl hE4.wf) ?_ ?_).mono ?_
  · simp [go_sem]
  · simp [go_sem]
  rintro q e s5 ⟨rfl, h5⟩
  simp (disch := omega) [go_sem]
  exact hE4.trans h5

end Go.Ev
