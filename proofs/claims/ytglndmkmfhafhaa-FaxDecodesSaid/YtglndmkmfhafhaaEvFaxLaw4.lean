/- The law FaxDecodes on the evaluator. -/
import Derived.Test.YtglndmkmfhafhaaEvFaxV
import Derived.Test.YtglndmkmfhafhaaEvFaxLaw1
namespace Go.Ev
open Go
set_option linter.unusedSimpArgs false
set_option linter.unusedVariables false

variable {T : Tab} {st : St}

theorem seq8_refl (a : List UInt8) : seq8 a a = true := seq8_iff.2 rfl

theorem decodes_loop (H : B.HasFax T) (h0 : 1 < st.nx) {a : Nat → List UInt8} {b : Nat → Int} (ha : ∀ i, (a i).length < 4611686018427387904) : ∀ (m i : Nat) (s : St) (e : Env), i + m = 4 → Ext st s →
    eget e 66 = .agg [.str (a 0), .int .i64 (b 0), .str (a 1), .int .i64 (b 1), .str (a 2), .int .i64 (b 2), .str (a 3), .int .i64 (b 3)] → eget e 67 = .int .i64 i →
    Res (run T (.loop B.chaselaw07_FaxDecodes_l0) e s) fun q e' s' => q = .exit 0 ∧ Ext st s' := by
  intro m
  induction m with
  | zero =>
    intro i s e hi hx g66 g67
    have hil : ¬ (i : Int) < 4 := by omega
    rw [run_loop]
    simp (disch := omega) [B.chaselaw07_FaxDecodes_l0, go_sem, g66, g67, hil]
    exact hx
  | succ m ih =>
    intro i s e hi hx g66 g67
    have hil : (i : Int) < 4 := by omega
    have hn := hx.nx
    have hap : List.take 2 (List.drop (i * 2) [AV.str (a 0), .int .i64 (b 0), .str (a 1), .int .i64 (b 1), .str (a 2), .int .i64 (b 2), .str (a 3), .int .i64 (b 3)]) = [.str (a i), .int .i64 (b i)] := by
      have : i = 0 ∨ i = 1 ∨ i = 2 ∨ i = 3 := by omega
      rcases this with rfl | rfl | rfl | rfl <;> rfl
    have hi4 : i * 2 ≤ 6 := by omega
    have hbx := Ext.new hx.wf (.cells 26 true [.str (a i), .int .i64 (b i)])
    have hg : hget ((s.nx, AObj.cells 26 true [.str (a i), .int .i64 (b i)]) :: s.h) s.nx = some (.cells 26 true [.str (a i), .int .i64 (b i)]) := by simp [hget_cons]
    have hwA : wrCells ((s.nx, AObj.cells 26 true [.str [], .int .i64 0]) :: s.h) s.nx 0 [.str (a i), .int .i64 (b i)] = some ((s.nx, AObj.cells 26 true [.str (a i), .int .i64 (b i)]) :: s.h) := by
      have := wr_all (h := (s.nx, AObj.cells 26 true [.str [], .int .i64 0]) :: s.h) (n := s.nx) (ty := 26) (l := true) (cs := [.str [], .int .i64 0]) (vs := [.str (a i), .int .i64 (b i)]) (by simp [hget_cons]) rfl rfl
      rw [this, hset_cons, if_pos rfl]
    have q0 : rdCell ((s.nx, AObj.cells 26 true [.str (a i), .int .i64 (b i)]) :: s.h) s.nx 0 = some (.str (a i)) := by simp [rdCell, hg]
    have q1 : rdCell ((s.nx, AObj.cells 26 true [.str (a i), .int .i64 (b i)]) :: s.h) s.nx 1 = some (.int .i64 (b i)) := by simp [rdCell, hg]
    have t1 := decode_tells (T := T) H hbx.wf (by simp only; omega) (a i) (b i) (ha i)
    rw [run_loop]
    simp (disch := omega) [B.chaselaw07_FaxDecodes_l0, go_sem, g66, g67, hil, hap, hi4, hwA, q0, q1]
    refine t1.use fun s1 hs1 => ?_
    have hg1 := hs1.get hbx.wf hg
    have p0 : rdCell s1.h s.nx 0 = some (.str (a i)) := by simp [rdCell, hg1]
    have p1 : rdCell s1.h s.nx 1 = some (.int .i64 (b i)) := by simp [rdCell, hg1]
    have t2 := refdec_tells (T := T) H hs1.wf (a i) (b i) (ha i)
    rw [refSpec_eq] at t2
    simp (disch := omega) [go_sem, p0, p1]
    refine t2.use fun s2 hs2 => ?_
    have hse := seq8_refl (decSpec (a i) (b i)).1
    simp (disch := omega) [go_sem, hse, wrap64]
    refine ih (i + 1) s2 _ (by omega) (((hx.trans hbx).trans hs1).trans hs2) ?_ ?_
    · simp [go_sem]
    · simp [go_sem]

/-- Octets as cells. -/
def bAV (l : List UInt8) : List AV := l.map fun b => .int .u8 (b.toNat : Nat)
theorem toBytes_bAV : ∀ l : List UInt8, toBytes (bAV l) = some l
  | [] => rfl
  | b :: l => by
    have := toBytes_bAV l
    simp only [bAV, List.map_cons, toBytes] at this ⊢
    rw [this]
    simp
theorem bAV_set (l : List UInt8) (i y : Nat) (hy : y < 256) : (bAV l).set i (.int .u8 (y : Nat)) = bAV (l.set i (UInt8.ofNat y)) := by
  simp [bAV, List.map_set, Nat.mod_eq_of_lt hy]

theorem faxDecodes_law (H : B.HasFax T) (hwf : st.Wf) (h0 : 1 < st.nx) {s : List UInt8} {w : Int} {wide kk at' y : Nat} (hs : s.length < 4611686018427387904) (hwd : wide < 256) (hat : at' < 65536) (hy : y < 256) {sv : AV} {xs : List Nat} (hD : DraftIn st sv kk xs) (hk : kk < 9223372036854775808) :
    Tells T st (.fn 1 [] []) [.str s, .int .i64 w, .agg [.int .u8 wide, sv], .int .u16 at', .int .u8 y] (.bool true) := by
  refine tells_of H.e1 H.f1 rfl ?_
  have hx := Ext.new hwf (.cells 24 true [.int .u8 wide, sv])
  have hbx : hget ((st.nx, AObj.cells 24 true [.int .u8 wide, sv]) :: st.h) st.nx = some (.cells 24 true [.int .u8 wide, sv]) := by simp [hget_cons]
  simp (disch := omega) [B.chaselaw07_FaxDecodes, go_sem]
  refine (works_tells H hx.wf (by simp only; omega)).use fun s1 hs1 => ?_
  have n1 := hs1.nx
  simp only at n1
  obtain ⟨mn, hmn⟩ : ∃ mn : Int, mn = (if (100 : Int) < (s.length : Int) then (100 : Int) else (s.length : Int)) := ⟨_, rfl⟩
  have hsub : asubS s none (some (.int .i64 mn)) = some (.str (s.take mn.toNat)) := asubS_to (by rw [hmn]; split <;> omega) (by rw [hmn]; split <;> omega)
  have hmn' : (if (100 : Int) < s.length then 100 else (s.length : Int)) = mn := hmn.symm
  have hst : (s.take mn.toNat).length ≤ 100 := by rw [List.length_take]; split at hmn <;> omega
  generalize s.take mn.toNat = s0 at *
  have hbx1 := hs1.get hx.wf hbx
  have hbA1 := rd_all hbx1 (k := 2) rfl
  have hD1 : ∀ {s' : St}, Ext st s' → DraftIn s' sv kk xs := fun h => ⟨hD.rd.ext h hwf, hD.lt⟩
  have hE1 := hx.trans hs1
  have hx2 := Ext.aside hs1.wf 11
  have hE1 := hE1.trans hx2
  obtain ⟨rs, h1, h2, h3⟩ := data_tells (T := T) H hE1.wf hwd (hD1 hE1) hk
  have hdl := dataOf_length (w := 1 + wide % 128) (rs := rs) (by omega) h1
  have t3 : ∀ {s : St}, s.Wf → Tells T s (.fn 7 [] []) [.agg [.int .u8 wide, sv]] (.int .i64 ((1 + wide % 128 : Nat) : Int)) := fun h => width_tells H h hwd
  obtain ⟨v, hv⟩ : ∃ v, v = 1 + wide % 128 := ⟨_, rfl⟩
  rw [← hv] at h2 h3 hdl t3
  have hcl : (codeOf v rs).length ≤ 258000 := by
    have := codeRows_length (w := v) (by omega) (by omega) rs (List.replicate v false)
    unfold codeOf
    omega
  have henc := encSpec_data (w := v) (by omega) (by omega) h2 (by omega) (by omega)
  obtain ⟨x, hx'⟩ : ∃ x, x = (packN (codeOf v rs ++ bitsMS 1 8)).map UInt8.ofNat := ⟨_, rfl⟩
  have hxl : x.length ≤ 40000 := by
    rw [hx', List.length_map, packN_length, List.length_append, bitsMS_length]; omega
  rw [← hx'] at henc
  generalize dataOf v rs = data at *
  simp (disch := omega) [go_sem, hmn', hsub, hbA1]
  refine h3.use fun s2 hs2 => ?_
  have hE2 := hE1.trans hs2
  have hbx2 := (hx2.trans hs2).get hs1.wf hbx1
  have hbA2 := rd_all hbx2 (k := 2) rfl
  simp (disch := omega) [go_sem]
  refine ⟨by simp [reI, dfind, wanted, go_sem, hbA2], ?_⟩
  refine (t3 hs2.wf).use fun s3 hs3 => ?_
  have hE3 := hE2.trans hs3
  have t4 := refenc_tells (T := T) H hE3.wf data v (by omega)
  rw [henc] at t4
  simp (disch := omega) [go_sem]
  refine t4.use fun s4 hs4 => ?_
  have hE4 := hE3.trans hs4
  have hbx4 := (hs3.trans hs4).get hs2.wf hbx2
  have hcat : x.length + 1 < 4611686018427387904 := by omega
  -- the octets with one changed
  obtain ⟨bs, hbs⟩ : ∃ bs, bs = x ++ [1] := ⟨_, rfl⟩
  have hbl : bs.length = x.length + 1 := by rw [hbs]; simp
  have hmap : List.map (fun b : UInt8 => AV.int .u8 (b.toNat : Nat)) x ++ [AV.int .u8 1] = bAV bs := by rw [hbs]; simp [bAV]
  obtain ⟨k, hkk⟩ : ∃ k, k = at' % (x.length + 1) := ⟨_, rfl⟩
  have hkl : k < x.length + 1 := by rw [hkk]; exact Nat.mod_lt _ (by omega)
  have hmod : (at' : Int).tmod ((x.length : Int) + 1) = k := by
    rw [Int.tmod_eq_emod_of_nonneg (by omega), hkk]
    push_cast
    rfl
  have hx0 : ¬ (x.length : Int) + 1 = 0 := by omega
  have hkl' : (k : Int) < (x.length : Int) + 1 := by omega
  obtain ⟨bt, hbt⟩ : ∃ bt, bt = bs.set k (UInt8.ofNat y) := ⟨_, rfl⟩
  have hbtl : bt.length = x.length + 1 := by rw [hbt, List.length_set]; exact hbl
  have hw5 : wrCells ((s4.nx, AObj.buf 5 1 (bAV bs)) :: s4.h) s4.nx k [.int .u8 (y : Nat)] = some ((s4.nx, AObj.buf 5 1 (bAV bt)) :: s4.h) := by
    simp only [wrCells, hget_cons, if_pos]
    rw [if_pos ⟨by simp [bAV]; omega, rfl⟩, hset_cons, if_pos rfl]
    simp only [splice]
    rw [bAV_set _ _ _ hy, hbt]
  have hx5 := Ext.new hs4.wf (.buf 5 1 (bAV bt))
  have hbx5 := hx5.get hs4.wf hbx4
  have hbA5 := rd_all hbx5 (k := 2) rfl
  have hg5 : hget ((s4.nx, AObj.buf 5 1 (bAV bt)) :: s4.h) s4.nx = some (.buf 5 1 (bAV bt)) := by simp [hget_cons]
  have hr5 : ∀ {h : Heap}, hget h s4.nx = some (.buf 5 1 (bAV bt)) → rdCells h s4.nx 0 (x.length + 1) = some (bAV bt) := by
    intro h hg
    have hl : (bAV bt).length = x.length + 1 := by simp [bAV, hbtl]
    simp only [rdCells, hg]
    rw [if_pos (by omega), List.drop_zero, List.take_of_length_le (by omega)]
  have hrA5 := hr5 hg5
  simp (disch := omega) [go_sem, hcat, hmap, hmod, hx0, hkl', hw5, hbA5, hrA5, toBytes_bAV, wrap64]
  have hx6 := Ext.aside hx5.wf 26
  have hE6 := (hE4.trans hx5).trans hx6
  refine (t3 (s := ⟨_, _⟩) hx6.wf).use fun s7 hs7 => ?_
  have hE7 := hE6.trans hs7
  have hbx7 := (hx6.trans hs7).get hx5.wf hbx5
  have hbA7 := rd_all hbx7 (k := 2) rfl
  have hg7 := (hx6.trans hs7).get hx5.wf hg5
  have hrA7 := hr5 hg7
  simp (disch := omega) [go_sem]
  refine ⟨by simp [reI, dfind, wanted, go_sem, hbA7], by simp [reI, dfind, wanted, go_sem, hrA7, toBytes_bAV], by simp [reI, dfind, wanted, go_sem, hbA7], ?_⟩
  refine (t3 hs7.wf).use fun s8 hs8 => ?_
  have hE8 := hE7.trans hs8
  have hbx8 := hs8.get hs7.wf hbx7
  have hbA8 := rd_all hbx8 (k := 2) rfl
  have hg8 := hs8.get hs7.wf hg7
  have hrA8 := hr5 hg8
  simp (disch := omega) [go_sem]
  refine ⟨by simp [reI, dfind, wanted, go_sem, hrA8, toBytes_bAV], by simp [reI, dfind, wanted, go_sem, hbA8], ?_⟩
  refine (t3 hs8.wf).use fun s9 hs9 => ?_
  have hE9 := hE8.trans hs9
  have hg9 := hs9.get hs8.wf hg8
  have hrA9 := hr5 hg9
  have hcat2 : x.length + s0.length < 4611686018427387904 := by omega
  simp (disch := omega) [go_sem, hcat2]
  refine ⟨by simp [reI, dfind, wanted, go_sem, hrA9, toBytes_bAV], ?_⟩
  try simp (disch := omega) [go_sem, hcat2]
  have n9 := hE9.nx
  refine (decodes_loop H (st := s9) (by omega) (a := fun i => if i = 0 then s0 else if i = 1 then s0 else if i = 2 then x ++ s0 else bt) (b := fun i => if i = 0 then w else (v : Nat)) (fun i => by
    split; omega; split; omega; split; (rw [List.length_append]; omega); omega) 4 0 s9 _ (by omega) (.refl hE9.wf) ?_ ?_).mono ?_
  · simp [go_sem]
  · simp [go_sem]
  rintro q e s10 ⟨rfl, h10⟩
  simp (disch := omega) [go_sem]
  exact hE9.trans h10

end Go.Ev
