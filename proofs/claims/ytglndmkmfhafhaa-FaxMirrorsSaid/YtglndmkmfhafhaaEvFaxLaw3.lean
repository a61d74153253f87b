/- The law FaxMirrors on the evaluator. -/
import Derived.Test.YtglndmkmfhafhaaEvFaxI
import Derived.Test.YtglndmkmfhafhaaEvFaxLaw1
namespace Go.Ev
open Go
set_option linter.unusedSimpArgs false
set_option linter.unusedVariables false

variable {T : Tab} {st : St}

theorem dataOf_append (w : Nat) : ∀ (A B : List (List Bool)), dataOf w (A ++ B) = dataOf w A ++ dataOf w B
  | [], B => by simp [dataOf, packN]
  | r :: A, B => by rw [List.cons_append, dataOf_cons, dataOf_cons, dataOf_append w A B, List.append_assoc]
theorem dataOf_take (w : Nat) (rs : List (List Bool)) {j : Nat} (h : j ≤ rs.length) : (dataOf w rs).take (j * ((w + 7) / 8)) = dataOf w (rs.take j) := by
  conv => lhs; rw [← List.take_append_drop j rs, dataOf_append]
  refine List.take_left' ?_
  rw [dataOf_len, List.length_take, Nat.min_eq_left h]
theorem codeRows_append (w : Nat) : ∀ (A B : List (List Bool)) (b : List Bool), ∃ M, codeRows w (A ++ B) b = codeRows w A b ++ M
  | [], B, b => ⟨_, rfl⟩
  | r :: A, B, b => by
    obtain ⟨M, h⟩ := codeRows_append w A B r
    exact ⟨M, by rw [List.cons_append, codeRows, codeRows, h, List.append_assoc]⟩
theorem pack_same {L X Y : List Bool} {i : Nat} (h : 8 * i + 8 ≤ L.length) : ((packN (L ++ X)).map UInt8.ofNat)[i]? = ((packN (L ++ Y)).map UInt8.ofNat)[i]? := by
  have e : ∀ Z : List Bool, chunk (L ++ Z) i = chunk L i := by
    intro Z
    simp only [chunk]
    rw [List.drop_append_of_le_length (by omega), List.take_append_of_le_length (by rw [List.length_drop]; omega)]
  rw [List.getElem?_map, List.getElem?_map, packN_get (by rw [List.length_append]; omega), packN_get (by rw [List.length_append]; omega), e, e]

theorem mirrors_loop (H : B.HasFax T) {x y : List UInt8} (hxl : x.length ≤ 65536) (hy : y.length ≤ 65536) (hxy : ∀ i, i + 2 < y.length → i < x.length → x[i]? = y[i]?) : ∀ (m i : Nat) (s : St) (e : Env), i + m = y.length → Ext st s →
    eget e 9 = .str x → eget e 11 = .str y → eget e 16 = .int .i64 i →
    Res (run T (.loop B.chaselaw07_FaxMirrors_l0) e s) fun q e' s' => q = .exit 0 ∧ Ext st s' := by
  intro m
  induction m with
  | zero =>
    intro i s e hi hx g9 g11 g16
    have hil : ¬ (i : Int) + 2 < y.length := by omega
    rw [run_loop]
    simp (disch := omega) [B.chaselaw07_FaxMirrors_l0, go_sem, g9, g11, g16, hil, wrap64]
    exact hx
  | succ m ih =>
    intro i s e hi hx g9 g11 g16
    by_cases h1 : i + 2 < y.length
    · have h1' : (i : Int) + 2 < y.length := by omega
      by_cases h2 : i < x.length
      · have h2' : (i : Int) < x.length := by omega
        have hy2 : (i : Int) < y.length := by omega
        have e1 := hxy i h1 h2
        have hyi : i < y.length := by omega
        rw [List.getElem?_eq_getElem h2, List.getElem?_eq_getElem hyi] at e1
        have e2 : x[i] = y[i] := by simpa using e1
        rw [run_loop]
        simp (disch := omega) [B.chaselaw07_FaxMirrors_l0, go_sem, g9, g11, g16, h1', h2', hy2, h2, hyi, e2, wrap64]
        refine ih (i + 1) _ _ (by omega) (hx.trans (Ext.aside hx.wf 7)) ?_ ?_ ?_
        · simp [go_sem, g9]
        · simp [go_sem, g11]
        · simp [go_sem]
      · have h2' : ¬ (i : Int) < x.length := by omega
        rw [run_loop]
        simp (disch := omega) [B.chaselaw07_FaxMirrors_l0, go_sem, g9, g11, g16, h1', h2', wrap64]
        exact hx
    · have h1' : ¬ (i : Int) + 2 < y.length := by omega
      rw [run_loop]
      simp (disch := omega) [B.chaselaw07_FaxMirrors_l0, go_sem, g9, g11, g16, h1', wrap64]
      exact hx

theorem faxMirrors_law (H : B.HasFax T) (hwf : st.Wf) (h0 : 1 < st.nx) {wide kk k : Nat} (hwd : wide < 256) (hk' : k < 256) {sv : AV} {xs : List Nat} (hD : DraftIn st sv kk xs) (hk : kk < 9223372036854775808) :
    Tells T st (.fn 3 [] []) [.agg [.int .u8 wide, sv], .int .u8 k] (.bool true) := by
  refine tells_of H.e3 H.f3 rfl ?_
  have hx := Ext.new hwf (.cells 24 true [.int .u8 wide, sv])
  have hbx : hget ((st.nx, AObj.cells 24 true [.int .u8 wide, sv]) :: st.h) st.nx = some (.cells 24 true [.int .u8 wide, sv]) := by simp [hget_cons]
  simp (disch := omega) [B.chaselaw07_FaxMirrors, go_sem]
  refine (works_tells H hx.wf (by simp only; omega)).use fun s1 hs1 => ?_
  have n1 := hs1.nx
  simp only at n1
  have hbx1 := hs1.get hx.wf hbx
  have hbA1 := rd_all hbx1 (k := 2) rfl
  have hD1 : ∀ {s' : St}, Ext st s' → DraftIn s' sv kk xs := fun h => ⟨hD.rd.ext h hwf, hD.lt⟩
  have hE1 := hx.trans hs1
  have hx2 := Ext.aside hs1.wf 7
  have hE1 := hE1.trans hx2
  obtain ⟨rs, h1, h2, h3⟩ := data_tells (T := T) H hE1.wf hwd (hD1 hE1) hk
  have t3 : ∀ {s : St}, s.Wf → Tells T s (.fn 7 [] []) [.agg [.int .u8 wide, sv]] (.int .i64 ((1 + wide % 128 : Nat) : Int)) := fun h => width_tells H h hwd
  obtain ⟨w, hw⟩ : ∃ w, w = 1 + wide % 128 := ⟨_, rfl⟩
  have hdl := dataOf_len w rs
  rw [← hw] at h2 h3 t3
  obtain ⟨n, hn⟩ : ∃ n, n = (w + 7) / 8 := ⟨_, rfl⟩
  rw [← hn] at hdl
  have hmul : rs.length * n ≤ 50 * 16 := Nat.mul_le_mul h1 (by omega)
  -- the part
  obtain ⟨j, hj⟩ : ∃ j, j = k % (rs.length + 1) := ⟨_, rfl⟩
  have hjl : j ≤ rs.length := by have := Nat.mod_lt k (show 0 < rs.length + 1 by omega); omega
  have hjm : j * n ≤ rs.length * n := Nat.mul_le_mul hjl (Nat.le_refl _)
  have htk := dataOf_take w rs hjl
  rw [← hn] at htk
  have h2j : ∀ r ∈ rs.take j, r.length = w := fun r hr => h2 r (List.mem_of_mem_take hr)
  obtain ⟨M, hM⟩ := codeRows_append w (rs.take j) (rs.drop j) (List.replicate w false)
  rw [List.take_append_drop] at hM
  change codeOf w rs = codeOf w (rs.take j) ++ M at hM
  have hcl : (codeOf w rs).length ≤ 258000 := by
    have := codeRows_length (w := w) (by omega) (by omega) rs (List.replicate w false)
    unfold codeOf
    omega
  have hML := congrArg List.length hM
  rw [List.length_append] at hML
  have htl : (rs.take j).length = j := by rw [List.length_take]; omega
  have hencx := encSpec_data (w := w) (by omega) (by omega) h2 (by omega) (by omega)
  have hency := encSpec_data (w := w) (by omega) (by omega) h2j (by omega) (by omega)
  have hdec := decSpec_code (w := w) (by omega) (by omega) h2j (more := []) (by simp only [List.length_nil]; omega)
  rw [List.append_nil, htl, ← hn, if_neg (by omega)] at hdec
  obtain ⟨x, hx'⟩ : ∃ x, x = (packN (codeOf w rs ++ bitsMS 1 8)).map UInt8.ofNat := ⟨_, rfl⟩
  obtain ⟨y, hy'⟩ : ∃ y, y = (packN (codeOf w (rs.take j) ++ bitsMS 1 8)).map UInt8.ofNat := ⟨_, rfl⟩
  have hxl : x.length = ((codeOf w rs).length + 15) / 8 := by
    rw [hx', List.length_map, packN_length, List.length_append, bitsMS_length]
  have hyl : y.length = ((codeOf w (rs.take j)).length + 15) / 8 := by
    rw [hy', List.length_map, packN_length, List.length_append, bitsMS_length]
  have hsame : ∀ i, i + 2 < y.length → i < x.length → x[i]? = y[i]? := by
    intro i h1 h2
    rw [hx', hy', hM, List.append_assoc]
    exact pack_same (by omega)
  rw [← hx'] at hencx
  rw [← hy'] at hency hdec
  rw [← hyl] at hdec
  rw [← htk] at hency hdec
  -- the sums
  have eq1 : ((w : Int) + 7).tdiv 8 = n := by rw [Int.tdiv_eq_ediv_of_nonneg (by omega)]; omega
  have eq2 : ((rs.length * n : Nat) : Int).tdiv n = rs.length := by rw [Int.tdiv_eq_ediv_of_nonneg (by omega), ← Int.natCast_ediv, Nat.mul_div_cancel _ (by omega)]
  have eq3 : (k : Int).tmod ((rs.length : Int) + 1) = j := by
    rw [Int.tmod_eq_emod_of_nonneg (by omega), hj]
    push_cast
    rfl
  have hn0 : ¬ n = 0 := by omega
  have hr0 : ¬ ((rs.length : Int) + 1 = 0) := by omega
  rw [← hdl] at hmul hjm eq2
  have hsub : asubS (dataOf w rs) none (some (.int .i64 ((j * n : Nat) : Int))) = some (.str ((dataOf w rs).take (j * n))) := by
    have := asubS_to (s := dataOf w rs) (j := ((j * n : Nat) : Int)) (k := .i64) (by omega) (by omega)
    rw [Int.toNat_natCast] at this
    exact this
  obtain ⟨P, hP⟩ : ∃ P, P = j * n := ⟨_, rfl⟩
  have eq4 : ((j : Int) * (n : Int)) = (P : Int) := by rw [hP]; push_cast; rfl
  rw [← hP] at hsub hjm htk hency hdec
  have hpl : ((dataOf w rs).take P).length ≤ 800 := by rw [List.length_take]; omega
  generalize (dataOf w rs).take P = part at *
  generalize dataOf w rs = data at *
  simp (disch := omega) [go_sem, hbA1]
  refine h3.use fun s2 hs2 => ?_
  have hE2 := hE1.trans hs2
  have hbA2 := rd_all ((hx2.trans hs2).get hs1.wf hbx1) (k := 2) rfl
  simp (disch := omega) [go_sem]
  refine ⟨by simp [reI, dfind, wanted, go_sem, hbA2], ?_⟩
  refine (t3 hs2.wf).use fun s3 hs3 => ?_
  have hE3 := hE2.trans hs3
  have n3 := hE3.nx
  have t4 := encode_tells (T := T) H hE3.wf (by omega) data w (by omega)
  rw [hencx] at t4
  simp (disch := omega) [go_sem, wrap64, eq1, eq2, eq3, eq4, hn0, hr0, hsub]
  refine t4.use fun s4 hs4 => ?_
  have hE4 := hE3.trans hs4
  have n4 := hE4.nx
  have t5 := encode_tells (T := T) H hE4.wf (by omega) part w (by omega)
  rw [hency] at t5
  simp (disch := omega) [go_sem]
  refine t5.use fun s5 hs5 => ?_
  have hE5 := hE4.trans hs5
  have n5 := hE5.nx
  have t6 := decode_tells (T := T) H hE5.wf (by omega) y w (by omega)
  rw [hdec] at t6
  simp (disch := omega) [go_sem]
  refine t6.use fun s6 hs6 => ?_
  have hE6 := hE5.trans hs6
  have n6 := hE6.nx
  have hse : seq8 part part = true := seq8_iff.2 rfl
  have hyx : ¬ (x.length : Int) + 1 < y.length := by omega
  simp (disch := omega) [go_sem, hse, hyx, wrap64]
  refine (mirrors_loop (T := T) (x := x) (y := y) H (st := s6) (by omega) (by omega) hsame y.length 0 s6 _ (by omega) (.refl hE6.wf) ?_ ?_ ?_).mono ?_
  · simp [go_sem]
  · simp [go_sem]
  · simp [go_sem]
  rintro q e s7 ⟨rfl, h7⟩
  simp (disch := omega) [go_sem]
  exact hE6.trans h7

end Go.Ev
