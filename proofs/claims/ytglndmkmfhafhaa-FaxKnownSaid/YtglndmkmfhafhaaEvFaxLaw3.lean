/- The law FaxMirrors on the evaluator. -/
import Derived.Test.YtglndmkmfhafhaaEvFaxI
import Derived.Test.YtglndmkmfhafhaaEvFaxLaw1
import Derived.Test.YtglndmkmfhafhaaEvRep
namespace Go.Ev
open Go
set_option linter.unusedSimpArgs false
set_option linter.unusedVariables false

variable {T : Tab} {st : St}

theorem dataOf_append (w : Nat) : ∀ (A B : List (List Bool)), dataOf w (A ++ B) = dataOf w A ++ dataOf w B
  | [], B => by simp [dataOf, packN]
  | r :: A, B => by rw [List.cons_append, dataOf_cons, dataOf_cons, dataOf_append w A B, List.append_assoc]
theorem dataOf_take (w : Nat) (rs : List (List Bool)) {j : Nat} (h : j ≤ rs.length) : (dataOf w rs).take (j * ((w + 7) / 8)) = dataOf w (rs.take j) := by
  conv => lhs; rw [← List.take_append_drop j rs, dataOf_append]
  refine List.take_left' ?_
  rw [dataOf_len, List.length_take, Nat.min_eq_left h]
theorem codeRows_append (w : Nat) : ∀ (A B : List (List Bool)) (b : List Bool), ∃ M, codeRows w (A ++ B) b = codeRows w A b ++ M
  | [], B, b => ⟨_, rfl⟩
  | r :: A, B, b => by
    obtain ⟨M, h⟩ := codeRows_append w A B r
    exact ⟨M, by rw [List.cons_append, codeRows, codeRows, h, List.append_assoc]⟩
theorem pack_same {L X Y : List Bool} {i : Nat} (h : 8 * i + 8 ≤ L.length) : ((packN (L ++ X)).map UInt8.ofNat)[i]? = ((packN (L ++ Y)).map UInt8.ofNat)[i]? := by
  have e : ∀ Z : List Bool, chunk (L ++ Z) i = chunk L i := by
    intro Z
    simp only [chunk]
    rw [List.drop_append_of_le_length (by omega), List.take_append_of_le_length (by rw [List.length_drop]; omega)]
  rw [List.getElem?_map, List.getElem?_map, packN_get (by rw [List.length_append]; omega), packN_get (by rw [List.length_append]; omega), e, e]

theorem mirrors_loop (H : B.HasFax T) {x y : List UInt8} (hxl : x.length ≤ 65536) (hy : y.length ≤ 65536) (hxy : ∀ i, i + 2 < y.length → i < x.length → x[i]? = y[i]?) : ∀ (m i : Nat) (s : St) (e : Env), i + m = y.length → Ext st s →
    eget e 9 = .str x → eget e 11 = .str y → eget e 16 = .int .i64 i →
    Res (run T (.loop B.chaselaw07_FaxMirrors_l0) e s) fun q e' s' => q = .exit 0 ∧ Ext st s' := by
  intro m
  induction m with
  | zero =>
    intro i s e hi hx g9 g11 g16
    have hil : ¬ (i : Int) + 2 < y.length := by omega
    rw [run_loop]
    simp (disch := omega) [B.chaselaw07_FaxMirrors_l0, go_sem, g9, g11, g16, hil, wrap64]
    exact hx
  | succ m ih =>
    intro i s e hi hx g9 g11 g16
    by_cases h1 : i + 2 < y.length
    · have h1' : (i : Int) + 2 < y.length := by omega
      by_cases h2 : i < x.length
      · have h2' : (i : Int) < x.length := by omega
        have hy2 : (i : Int) < y.length := by omega
        have e1 := hxy i h1 h2
        have hyi : i < y.length := by omega
        rw [List.getElem?_eq_getElem h2, List.getElem?_eq_getElem hyi] at e1
        have e2 : x[i] = y[i] := by simpa using e1
        rw [run_loop]
        simp (disch := omega) [B.chaselaw07_FaxMirrors_l0, go_sem, g9, g11, g16, h1', h2', hy2, h2, hyi, e2, wrap64]
        refine ih (i + 1) _ _ (by omega) (hx.trans (Ext.aside hx.wf 7)) ?_ ?_ ?_
        · simp [go_sem, g9]
        · simp [go_sem, g11]
        · simp [go_sem]
      · have h2' : ¬ (i : Int) < x.length := by omega
        rw [run_loop]
        simp (disch := omega) [B.chaselaw07_FaxMirrors_l0, go_sem, g9, g11, g16, h1', h2', wrap64]
        exact hx
    · have h1' : ¬ (i : Int) + 2 < y.length := by omega
      rw [run_loop]
      simp (disch := omega) [B.chaselaw07_FaxMirrors_l0, go_sem, g9, g11, g16, h1', wrap64]
      exact hx

theorem faxMirrors_law (H : B.HasFax T) (hwf : st.Wf) (h0 : 1 < st.nx) {wide kk k : Nat} (hwd : wide < 256) (hk' : k < 256) {sv : AV} {xs : List Nat} (hD : DraftIn st sv kk xs) (hk : kk < 9223372036854775808) :
    Tells T st (.fn 3 [] []) [.agg [.int .u8 wide, sv], .int .u8 k] (.bool true) := by
  refine tells_of H.e3 H.f3 rfl ?_
  have hx := Ext.new hwf (.cells 24 true [.int .u8 wide, sv])
  have hbx : hget ((st.nx, AObj.cells 24 true [.int .u8 wide, sv]) :: st.h) st.nx = some (.cells 24 true [.int .u8 wide, sv]) := by simp [hget_cons]
  simp (disch := omega) [B.chaselaw07_FaxMirrors, go_sem]
  refine (works_tells H hx.wf (by simp only; omega)).use fun s1 hs1 => ?_
  have n1 := hs1.nx
  simp only at n1
  have hbx1 := hs1.get hx.wf hbx
  have hbA1 := rd_all hbx1 (k := 2) rfl
  have hD1 : ∀ {s' : St}, Ext st s' → DraftIn s' sv kk xs := fun h => ⟨hD.rd.ext h hwf, hD.lt⟩
  have hE1 := hx.trans hs1
  have hx2 := Ext.aside hs1.wf 7
  have hE1 := hE1.trans hx2
  obtain ⟨rs, h1, h2, h3⟩ := data_tells (T := T) H hE1.wf hwd (hD1 hE1) hk
  have t3 : ∀ {s : St}, s.Wf → Tells T s (.fn 7 [] []) [.agg [.int .u8 wide, sv]] (.int .i64 ((1 + wide % 128 : Nat) : Int)) := fun h => width_tells H h hwd
  obtain ⟨w, hw⟩ : ∃ w, w = 1 + wide % 128 := ⟨_, rfl⟩
  have hdl := dataOf_len w rs
  rw [← hw] at h2 h3 t3
  obtain ⟨n, hn⟩ : ∃ n, n = (w + 7) / 8 := ⟨_, rfl⟩
  rw [← hn] at hdl
  have hmul : rs.length * n ≤ 50 * 16 := Nat.mul_le_mul h1 (by omega)
  -- the part
  obtain ⟨j, hj⟩ : ∃ j, j = k % (rs.length + 1) := ⟨_, rfl⟩
  have hjl : j ≤ rs.length := by have := Nat.mod_lt k (show 0 < rs.length + 1 by omega); omega
  have hjm : j * n ≤ rs.length * n := Nat.mul_le_mul hjl (Nat.le_refl _)
  have htk := dataOf_take w rs hjl
  rw [← hn] at htk
  have h2j : ∀ r ∈ rs.take j, r.length = w := fun r hr => h2 r (List.mem_of_mem_take hr)
  obtain ⟨M, hM⟩ := codeRows_append w (rs.take j) (rs.drop j) (List.replicate w false)
  rw [List.take_append_drop] at hM
  change codeOf w rs = codeOf w (rs.take j) ++ M at hM
  have hcl : (codeOf w rs).length ≤ 258000 := by
    have := codeRows_length (w := w) (by omega) (by omega) rs (List.replicate w false)
    unfold codeOf
    omega
  have hML := congrArg List.length hM
  rw [List.length_append] at hML
  have htl : (rs.take j).length = j := by rw [List.length_take]; omega
  have hencx := encSpec_data (w := w) (by omega) (by omega) h2 (by omega) (by omega)
  have hency := encSpec_data (w := w) (by omega) (by omega) h2j (by omega) (by omega)
  have hdec := decSpec_code (w := w) (by omega) (by omega) h2j (more := []) (by simp only [List.length_nil]; omega)
  rw [List.append_nil, htl, ← hn, if_neg (by omega)] at hdec
  obtain ⟨x, hx'⟩ : ∃ x, x = (packN (codeOf w rs ++ bitsMS 1 8)).map UInt8.ofNat := ⟨_, rfl⟩
  obtain ⟨y, hy'⟩ : ∃ y, y = (packN (codeOf w (rs.take j) ++ bitsMS 1 8)).map UInt8.ofNat := ⟨_, rfl⟩
  have hxl : x.length = ((codeOf w rs).length + 15) / 8 := by
    rw [hx', List.length_map, packN_length, List.length_append, bitsMS_length]
  have hyl : y.length = ((codeOf w (rs.take j)).length + 15) / 8 := by
    rw [hy', List.length_map, packN_length, List.length_append, bitsMS_length]
  have hsame : ∀ i, i + 2 < y.length → i < x.length → x[i]? = y[i]? := by
    intro i h1 h2
    rw [hx', hy', hM, List.append_assoc]
    exact pack_same (by omega)
  rw [← hx'] at hencx
  rw [← hy'] at hency hdec
  rw [← hyl] at hdec
  rw [← htk] at hency hdec
  -- the sums
  have eq1 : ((w : Int) + 7).tdiv 8 = n := by rw [Int.tdiv_eq_ediv_of_nonneg (by omega)]; omega
  have eq2 : ((rs.length * n : Nat) : Int).tdiv n = rs.length := by rw [Int.tdiv_eq_ediv_of_nonneg (by omega), ← Int.natCast_ediv, Nat.mul_div_cancel _ (by omega)]
  have eq3 : (k : Int).tmod ((rs.length : Int) + 1) = j := by
    rw [Int.tmod_eq_emod_of_nonneg (by omega), hj]
    push_cast
    rfl
  have hn0 : ¬ n = 0 := by omega
  have hr0 : ¬ ((rs.length : Int) + 1 = 0) := by omega
  rw [← hdl] at hmul hjm eq2
  have hsub : asubS (dataOf w rs) none (some (.int .i64 ((j * n : Nat) : Int))) = some (.str ((dataOf w rs).take (j * n))) := by
    have := asubS_to (s := dataOf w rs) (j := ((j * n : Nat) : Int)) (k := .i64) (by omega) (by omega)
    rw [Int.toNat_natCast] at this
    exact this
  obtain ⟨P, hP⟩ : ∃ P, P = j * n := ⟨_, rfl⟩
  have eq4 : ((j : Int) * (n : Int)) = (P : Int) := by rw [hP]; push_cast; rfl
  rw [← hP] at hsub hjm htk hency hdec
  have hpl : ((dataOf w rs).take P).length ≤ 800 := by rw [List.length_take]; omega
  generalize (dataOf w rs).take P = part at *
  generalize dataOf w rs = data at *
  simp (disch := omega) [go_sem, hbA1]
  refine h3.use fun s2 hs2 => ?_
  have hE2 := hE1.trans hs2
  have hbA2 := rd_all ((hx2.trans hs2).get hs1.wf hbx1) (k := 2) rfl
  simp (disch := omega) [go_sem]
  refine ⟨by simp [reI, dfind, wanted, go_sem, hbA2], ?_⟩
  refine (t3 hs2.wf).use fun s3 hs3 => ?_
  have hE3 := hE2.trans hs3
  have n3 := hE3.nx
  have t4 := encode_tells (T := T) H hE3.wf (by omega) data w (by omega)
  rw [hencx] at t4
  simp (disch := omega) [go_sem, wrap64, eq1, eq2, eq3, eq4, hn0, hr0, hsub]
  refine t4.use fun s4 hs4 => ?_
  have hE4 := hE3.trans hs4
  have n4 := hE4.nx
  have t5 := encode_tells (T := T) H hE4.wf (by omega) part w (by omega)
  rw [hency] at t5
  simp (disch := omega) [go_sem]
  refine t5.use fun s5 hs5 => ?_
  have hE5 := hE4.trans hs5
  have n5 := hE5.nx
  have t6 := decode_tells (T := T) H hE5.wf (by omega) y w (by omega)
  rw [hdec] at t6
  simp (disch := omega) [go_sem]
  refine t6.use fun s6 hs6 => ?_
  have hE6 := hE5.trans hs6
  have n6 := hE6.nx
  have hse : seq8 part part = true := seq8_iff.2 rfl
  have hyx : ¬ (x.length : Int) + 1 < y.length := by omega
  simp (disch := omega) [go_sem, hse, hyx, wrap64]
  refine (mirrors_loop (T := T) (x := x) (y := y) H (st := s6) (by omega) (by omega) hsame y.length 0 s6 _ (by omega) (.refl hE6.wf) ?_ ?_ ?_).mono ?_
  · simp [go_sem]
  · simp [go_sem]
  · simp [go_sem]
  rintro q e s7 ⟨rfl, h7⟩
  simp (disch := omega) [go_sem]
  exact hE6.trans h7

end Go.Ev

/- A row that is equal to the row before it: plain laws, and the law FaxSame on the evaluator. -/
namespace Go.Ev
open Go
set_option linter.unusedSimpArgs false
set_option linter.unusedVariables false

variable {T : Tab} {st : St}

/-- The changes of color. -/
def chg : List Bool → Bool → Nat
  | [], _ => 0
  | b :: l, last => (if b = last then 0 else 1) + chg l b
theorem chg_le : ∀ (l : List Bool) (c : Bool), chg l c ≤ l.length
  | [], c => Nat.le_refl _
  | b :: l, c => by
    have := chg_le l b
    simp only [chg, List.length_cons]
    split <;> omega
theorem bit_drop {r : List Bool} {i : Nat} (h : i < r.length) : r.drop i = bit r i :: r.drop (i + 1) := by
  rw [List.drop_eq_getElem_cons h]
  congr 1
  simp [bit, List.getD_eq_getElem?_getD, List.getElem?_eq_getElem h]
theorem chg_skip {r : List Bool} {c : Bool} : ∀ (k i : Nat), i + k ≤ r.length → (∀ j : Nat, i ≤ j → j < i + k → bit r j = c) → chg (r.drop i) c = chg (r.drop (i + k)) c
  | 0, i, _, _ => rfl
  | k + 1, i, h, hc => by
    rw [bit_drop (by omega), hc i (by omega) (by omega)]
    simp only [chg, if_pos, Nat.zero_add]
    rw [chg_skip k (i + 1) (by omega) (fun j h1 h2 => hc j (by omega) (by omega)), show i + 1 + k = i + (k + 1) by omega]

theorem firstN_eq {p : Int → Bool} : ∀ (n : Nat) (i m : Int), i ≤ m → m ≤ i + n → (∀ j, i ≤ j → j < m → p j = false) → (m < i + n → p m = true) → firstN p i n = m
  | 0, i, m, h1, h2, _, _ => by simp only [firstN]; omega
  | n + 1, i, m, h1, h2, h3, h4 => by
    simp only [firstN]
    by_cases e : i = m
    · subst e
      rw [if_pos (h4 (by omega))]
    · rw [if_neg (by rw [h3 i (by omega) (by omega)]; simp)]
      exact firstN_eq n (i + 1) m (by omega) (by omega) (fun j h5 h6 => h3 j (by omega) h6) (fun h => h4 (by omega))
theorem firstZ_eq {p : Int → Bool} {i w m : Int} (hiw : i ≤ w) (h1 : i ≤ m) (h2 : m ≤ w) (h3 : ∀ j, i ≤ j → j < m → p j = false) (h4 : m < w → p m = true) : firstZ p i w = m := by
  unfold firstZ
  exact firstN_eq _ _ _ (by omega) (by omega) (fun j h5 h6 => h3 j (by omega) h6) (fun h => h4 (by omega))

/-- The edge of the row before is the row's own. -/
theorem encB_self {r : List Bool} {w a : Int} {c : Bool} (ha : -1 ≤ a) (haw : a < w) (hl : Lies r w a c) (h0 : a = -1 → c = false) : encB r w a c = encP r w a c := by
  have hle : max (a + 1) 0 ≤ encP r w a c := firstZ_ge (by omega)
  refine firstZ_eq (by omega) hle firstZ_le' (fun j h1 h2 => ?_) (fun h => ?_)
  · have := firstZ_false (p := fun i => bit r i != c) (w := w) h1 h2
    simp only [bne_eq_false_iff_eq] at this
    simp [edgeP, this]
  · have h1 := firstZ_true (p := fun i => bit r i != c) (i := max (a + 1) 0) (w := w) h
    have h1 : (bit r (encP r w a c) != c) = true := h1
    unfold edgeP
    rw [h1]
    by_cases hp : encP r w a c > 0
    · rw [decide_eq_true hp]
      have h2 : bit r (encP r w a c - 1) = c := row_to_p ha haw hl (by omega) (by omega)
      simp [h2]
    · rw [decide_eq_false hp]
      have : a = -1 := by omega
      simp [h0 this]

theorem encRow_self {r : List Bool} {w : Nat} (hr : r.length = w) (hw : 1 ≤ w) : ∀ (k : Nat) (a : Int) (c : Bool), -1 ≤ a → a < w → ((w : Int) - a).toNat ≤ k → Lies r w a c → (a = -1 → c = false) →
    encRow r r w k a c = List.replicate (chg (r.drop (a + 1).toNat) c + 1) true
  | 0, a, c, h1, h2, h3, _, _ => by omega
  | k + 1, a, c, ha, haw, hk, hl, h0 => by
    obtain ⟨p1, p2, q1, q2, b1, b2, d1, d2⟩ := enc_more r r c ha haw (by omega)
    have hB := encB_self ha haw hl h0
    have hd : ¬ encD r w a c < encP r w a c := by rw [hB] at d1; omega
    have hst : encStep r r w a c = ([(1, 1)], encP r w a c, !c) := by
      unfold encStep
      rw [if_neg hd, hB, Int.sub_self, if_pos (by decide)]
      rfl
    rw [encRow, if_pos haw, hst]
    have hb : pairBits [(1, 1)] = [true] := by decide
    simp only [hb]
    obtain ⟨p, hp⟩ : ∃ p : Nat, encP r w a c = p := ⟨(encP r w a c).toNat, by omega⟩
    have hskip : chg (r.drop (a + 1).toNat) c = chg (r.drop p) c := by
      have := chg_skip (r := r) (c := c) (p - (a + 1).toNat) (a + 1).toNat (by omega) (fun j h1 h2 => row_to_p ha haw hl (by omega) (by omega))
      rw [show (a + 1).toNat + (p - (a + 1).toNat) = p by omega] at this
      exact this
    rw [hskip, hp]
    by_cases hpw : p = w
    · have hz : chg (r.drop p) c = 0 := by rw [List.drop_of_length_le (by omega)]; rfl
      rw [hz]
      have : encRow r r w k (p : Int) (!c) = [] := by
        cases k with
        | zero => rfl
        | succ k => rw [encRow, if_neg (by omega)]
      rw [this]
      rfl
    · have h1 := firstZ_true (p := fun i => bit r i != c) (i := max (a + 1) 0) (w := w) (show encP r w a c < w by omega)
      have h1 : (bit r (encP r w a c) != c) = true := h1
      rw [hp] at h1
      have h2 : bit r (p : Nat) = !c := by revert h1; cases bit r (p : Nat) <;> cases c <;> simp
      have ih := encRow_self hr hw k p (!c) (by omega) (by omega) (by omega) (fun _ _ => h2) (fun h => by omega)
      rw [ih, bit_drop (i := p) (by omega), h2]
      simp only [chg]
      rw [if_neg (by cases c <;> simp), show ((p : Int) + 1).toNat = p + 1 by omega, show 1 + chg (r.drop (p + 1)) (!c) + 1 = (chg (r.drop (p + 1)) (!c) + 1) + 1 by omega, List.replicate_succ (n := chg (r.drop (p + 1)) (!c) + 1)]
      rfl

theorem codeRows_app (w : Nat) : ∀ (A B : List (List Bool)) (b : List Bool), codeRows w (A ++ B) b = codeRows w A b ++ codeRows w B (A.getLastD b)
  | [], B, b => rfl
  | r :: A, B, b => by
    rw [List.cons_append, codeRows, codeRows, codeRows_app w A B r, List.append_assoc]
    congr 2
    cases A <;> rfl
theorem codeRows_same {r : List Bool} {w : Nat} (hr : r.length = w) (hw : 1 ≤ w) (hw' : w ≤ 128) : ∀ m, codeRows w (List.replicate m r) r = List.replicate (m * (chg r false + 1)) true
  | 0 => by simp [codeRows]
  | m + 1 => by
    rw [List.replicate_succ, codeRows, codeRows_same hr hw hw' m, encRow_self hr hw 129 (-1) false (by omega) (by omega) (by omega) (fun h => by omega) (fun _ => rfl)]
    rw [show ((-1 : Int) + 1).toNat = 0 from rfl, List.drop_zero, List.replicate_append_replicate]
    congr 1
    rw [Nat.succ_mul]
    omega

/-! The walk. -/
theorem u8_bit_val {b r : Nat} (h : b < 256) (hr : r < 8) : iand .u8 (ishr .u8 (b : Int) r) 1 = ((b.testBit r).toNat : Nat) := by
  rw [ishr_nat (by omega) (by simp [IntKind.bits]; omega)]
  have e : (b : Int) / 2 ^ r = ((b / 2 ^ r : Nat) : Int) := by push_cast; rfl
  have h1 : b / 2 ^ r ≤ b := Nat.div_le_self _ _
  rw [e, iand_u8_one (by omega), Nat.toNat_testBit]

theorem same_loop {R : List UInt8} {w : Nat} (hw : w ≤ 8 * R.length) (hR : R.length ≤ 16) {u1 u5 u6 : AV} : ∀ (m i n : Nat) (c : Bool) (e : Env), i + m = w → n ≤ i → eget e 1 = u1 → eget e 5 = u5 → eget e 6 = u6 → eget e 8 = .str R → eget e 9 = .int .i64 n → eget e 10 = .int .u8 (c.toNat : Nat) → eget e 38 = .int .i64 w → eget e 39 = .int .i64 i →
    Res (run T (.loop B.chaselaw07_FaxSame_l0) e st) fun q e' s' => q = .exit 0 ∧ s' = st ∧ eget e' 1 = u1 ∧ eget e' 5 = u5 ∧ eget e' 6 = u6 ∧ eget e' 8 = .str R ∧ eget e' 9 = .int .i64 (n + chg (((strBits R).take w).drop i) c : Nat) := by
  intro m
  induction m with
  | zero =>
    intro i n c e hi hn g1 g5 g6 g8 g9 g10 g38 g39
    have hil : ¬ (i : Int) < w := by omega
    rw [run_loop, List.drop_of_length_le (by rw [List.length_take]; omega)]
    simp (disch := omega) [B.chaselaw07_FaxSame_l0, go_sem, g1, g5, g6, g8, g9, g10, g38, g39, hil, chg]
  | succ m ih =>
    intro i n c e hi hn g1 g5 g6 g8 g9 g10 g38 g39
    have hil : (i : Int) < w := by omega
    have hlen := strBits_length R
    obtain ⟨b, hb⟩ : ∃ b, R[i / 8]? = some b := ⟨R[i / 8]'(by omega), by simp⟩
    have hbit := strBits_get R i b hb
    have hbb : R[i / 8]'(by omega) = b := by rw [List.getElem?_eq_getElem (by omega)] at hb; exact Option.some.inj hb
    have hq : (i : Int).tdiv 8 = (i / 8 : Nat) := by rw [Int.tdiv_eq_ediv_of_nonneg (by omega)]; omega
    have hd : (i : Int).tmod 8 = (i % 8 : Nat) := by rw [Int.tmod_eq_emod_of_nonneg (by omega)]; omega
    have hq' : ((i : Int) / 8).toNat = i / 8 := by omega
    have hu := u8_bit_val (b := b.toNat) (r := 7 - i % 8) (by have := b.toNat_lt; omega) (by omega)
    have h7 : ((7 - i % 8 : Nat) : Int) = 7 - (i : Int) % 8 := by omega
    rw [h7] at hu
    have h70 : 0 ≤ 7 - (i : Int) % 8 := by omega
    have h73 : ¬ (7 - (i : Int) % 8 < 0) := by omega
    have h71 : 0 ≤ (i : Int) / 8 := by omega
    have h72 : (i : Int) / 8 < R.length := by omega
    have hi8 : i / 8 < R.length := by omega
    generalize b.toNat.testBit (7 - i % 8) = y at hbit hu
    have hdrop : ((strBits R).take w).drop i = y :: ((strBits R).take w).drop (i + 1) := by
      have hil2 : i < ((strBits R).take w).length := by rw [List.length_take]; omega
      rw [List.drop_eq_getElem_cons hil2]
      congr 1
      rw [List.getElem_take]
      rw [List.getElem?_eq_getElem (by omega)] at hbit
      exact Option.some.inj hbit
    rw [hdrop, run_loop]
    simp only [chg]
    by_cases hy : y = c
    · subst hy
      rw [if_pos rfl, Nat.zero_add]
      simp (disch := omega) [B.chaselaw07_FaxSame_l0, go_sem, g1, g5, g6, g8, g9, g10, g38, g39, hil, hq, hd, hq', h70, h73, h71, h72, hi8, hbb, hu, wrap64]
      refine ih (i + 1) n y _ (by omega) (by omega) ?_ ?_ ?_ ?_ ?_ ?_ ?_ ?_
      all_goals simp [go_sem]
    · rw [if_neg hy]
      have hyc : ¬ ((y.toNat : Nat) : Int) = (c.toNat : Nat) := by revert hy; cases y <;> cases c <;> simp
      simp (disch := omega) [B.chaselaw07_FaxSame_l0, go_sem, g1, g5, g6, g8, g9, g10, g38, g39, hil, hq, hd, hq', h70, h73, h71, h72, hi8, hbb, hu, hyc, wrap64]
      refine (ih (i + 1) (n + 1) y _ (by omega) (by omega) ?_ ?_ ?_ ?_ ?_ ?_ ?_ ?_).mono ?_
      all_goals first | (simp [go_sem]; done) | skip
      rintro q e2 s2 ⟨k1, k2, k3, k4, k5, k6, k7⟩
      refine ⟨k1, k2, k3, k4, k5, k6, ?_⟩
      rw [k7, Nat.add_assoc]
      simp

/-- Rows that end in a row. -/
theorem codeOf_same {w : Nat} (hw : 1 ≤ w) (hw' : w ≤ 128) {rs : List (List Bool)} {r : List Bool} (hr : r.length = w) (hl : rs.getLast? = some r) (m : Nat) :
    (codeOf w (rs ++ List.replicate m r)).length = (codeOf w rs).length + m * (chg r false + 1) := by
  have h1 : rs.getLastD (List.replicate w false) = r := by rw [List.getLastD_eq_getLast?, hl]; rfl
  unfold codeOf
  rw [codeRows_app, h1, codeRows_same hr hw hw', List.length_append, List.length_replicate]
theorem repeatL_data (w : Nat) (r : List Bool) : ∀ m, Lib.repeatL (dataOf w [r]) m = dataOf w (List.replicate m r)
  | 0 => by simp [Lib.repeatL, dataOf, packN]
  | m + 1 => by rw [Lib.repeatL, repeatL_data w r m, ← dataOf_append]; rfl
theorem repeatL_zero (n : Nat) : ∀ m, Lib.repeatL [0] m = List.replicate m (0 : UInt8)
  | 0 => rfl
  | m + 1 => by rw [Lib.repeatL, repeatL_zero n m]; rfl
theorem dataOf_white (w : Nat) : dataOf w [List.replicate w false] = List.replicate ((w + 7) / 8) 0 := by
  have hl : (rowOut w (List.replicate w false)) = List.replicate (8 * ((w + 7) / 8)) false := by
    rw [rowOut_row (by simp), List.replicate_append_replicate]
    congr 1
    omega
  simp only [dataOf, List.flatMap_cons, List.flatMap_nil, List.append_nil, hl]
  apply List.ext_getElem?
  intro i
  rw [List.getElem?_map, List.getElem?_replicate]
  by_cases h : i < (w + 7) / 8
  · rw [if_pos h, packN_get (by rw [List.length_replicate]; omega)]
    have : chunk (List.replicate (8 * ((w + 7) / 8)) false) i = List.replicate 8 false := by
      simp only [chunk]
      rw [List.drop_replicate, List.take_replicate]
      congr 1
      omega
    rw [this]
    rfl
  · rw [if_neg h, List.getElem?_eq_none (by rw [packN_length, List.length_replicate]; omega)]
    rfl

/-- The draft's rows, at least one. -/
theorem same_rows {w : Nat} (hw : 1 ≤ w) (hw' : w ≤ 128) {rs : List (List Bool)} (hrs : ∀ r ∈ rs, r.length = w) (hl : rs.length ≤ 50) :
    ∃ (rs' : List (List Bool)) (r : List Bool), rs'.length ≤ 51 ∧ (∀ r ∈ rs', r.length = w) ∧ r.length = w ∧ rs'.getLast? = some r ∧
      (if (dataOf w rs).length < (w + 7) / 8 then List.replicate ((w + 7) / 8) 0 else dataOf w rs) = dataOf w rs' ∧ (dataOf w rs').drop ((dataOf w rs').length - (w + 7) / 8) = dataOf w [r] ∧ (w + 7) / 8 ≤ (dataOf w rs').length := by
  have hdl := dataOf_len w rs
  by_cases h : rs = []
  · subst h
    refine ⟨[List.replicate w false], List.replicate w false, by simp, by simp, by simp, rfl, ?_, ?_, ?_⟩
    · rw [if_pos (by simp only [List.length_nil] at hdl; omega), dataOf_white]
    · rw [dataOf_len]; simp
    · rw [dataOf_len]; simp
  · obtain ⟨r, hr⟩ : ∃ r, rs.getLast? = some r := ⟨rs.getLast h, List.getLast?_eq_some_getLast h⟩
    have he := List.dropLast_concat_getLast h
    have hr' : rs.getLast h = r := by rw [List.getLast?_eq_some_getLast h] at hr; exact Option.some.inj hr
    rw [hr'] at he
    have hpos : 0 < rs.length := List.length_pos_iff.2 h
    have hge : (w + 7) / 8 ≤ rs.length * ((w + 7) / 8) := Nat.le_mul_of_pos_left _ hpos
    refine ⟨rs, r, by omega, hrs, hrs r (by rw [← hr']; exact List.getLast_mem h), hr, by rw [if_neg (by omega)], ?_, by omega⟩
    conv => lhs; rw [← he]
    have h1 := dataOf_len w rs.dropLast
    have h2 := dataOf_len w [r]
    rw [List.length_singleton, Nat.one_mul] at h2
    rw [dataOf_append, List.length_append, h2, Nat.add_sub_cancel, List.drop_left]

theorem asubS_from {s : List UInt8} {i : Int} {k : IntKind} (h0 : 0 ≤ i) (h1 : i ≤ s.length) : asubS s (some (.int k i)) none = some (.str (s.drop i.toNat)) := by
  simp only [asubS, abounds, bnd, abound]
  rw [if_pos ⟨h0, h1⟩]
  simp only [Option.some.injEq, AV.str.injEq]
  rw [List.take_of_length_le (by rw [List.length_drop]; omega)]

theorem faxSame_law (H : B.HasFax T) (hE13 : T.en 13 = some repeatE) (hwf : st.Wf) (h0 : 1 < st.nx) {wide kk tm : Nat} (hwd : wide < 256) (htm : tm < 256) {sv : AV} {xs : List Nat} (hD : DraftIn st sv kk xs) (hk : kk < 9223372036854775808) :
    Tells T st (.fn 4 [] []) [.agg [.int .u8 wide, sv], .int .u8 tm] (.bool true) := by
  refine tells_of H.e4 H.f4 rfl ?_
  have hx := Ext.new hwf (.cells 24 true [.int .u8 wide, sv])
  have hbx : hget ((st.nx, AObj.cells 24 true [.int .u8 wide, sv]) :: st.h) st.nx = some (.cells 24 true [.int .u8 wide, sv]) := by simp [hget_cons]
  simp (disch := omega) [B.chaselaw07_FaxSame, go_sem]
  refine (works_tells H hx.wf (by simp only; omega)).use fun s1 hs1 => ?_
  have n1 := hs1.nx
  simp only at n1
  have hbx1 := hs1.get hx.wf hbx
  have hbA1 := rd_all hbx1 (k := 2) rfl
  have hD1 : ∀ {s' : St}, Ext st s' → DraftIn s' sv kk xs := fun h => ⟨hD.rd.ext h hwf, hD.lt⟩
  have hE1 := hx.trans hs1
  have hx2 := Ext.aside hs1.wf 7
  have hE1 := hE1.trans hx2
  obtain ⟨rs, h1, h2, h3⟩ := data_tells (T := T) H hE1.wf hwd (hD1 hE1) hk
  have t3 : ∀ {s : St}, s.Wf → Tells T s (.fn 7 [] []) [.agg [.int .u8 wide, sv]] (.int .i64 ((1 + wide % 128 : Nat) : Int)) := fun h => width_tells H h hwd
  obtain ⟨w, hw⟩ : ∃ w, w = 1 + wide % 128 := ⟨_, rfl⟩
  rw [← hw] at h2 h3 t3
  obtain ⟨n, hn⟩ : ∃ n, n = (w + 7) / 8 := ⟨_, rfl⟩
  obtain ⟨rs', r, g1, g2, g3, g4, g5, g6, g7⟩ := same_rows (w := w) (by omega) (by omega) h2 h1
  have hdl := dataOf_len w rs
  have hdl' := dataOf_len w rs'
  rw [← hn] at hdl hdl' g5 g6 g7
  have hmul : rs'.length * n ≤ 51 * 16 := Nat.mul_le_mul g1 (by omega)
  -- the pictures
  obtain ⟨tt, htt⟩ : ∃ tt, tt = tm % 20 := ⟨_, rfl⟩
  have hrep : ∀ r2 ∈ rs' ++ List.replicate (8 * tt) r, r2.length = w := fun r2 h => by
    rcases List.mem_append.1 h with h | h
    · exact g2 r2 h
    · rw [(List.mem_replicate.1 h).2]; exact g3
  have hcs := codeOf_same (w := w) (by omega) (by omega) g3 g4 (8 * tt)
  have hcl : (codeOf w rs').length ≤ 263160 := by
    have := codeRows_length (w := w) (by omega) (by omega) rs' (List.replicate w false)
    unfold codeOf
    omega
  have hch := chg_le r false
  obtain ⟨cg, hcg⟩ : ∃ cg, cg = chg r false := ⟨_, rfl⟩
  rw [← hcg] at hcs hch
  have hcm : 8 * tt * (cg + 1) = 8 * (tt * (cg + 1)) := Nat.mul_assoc _ _ _
  have hcm2 : tt * (cg + 1) ≤ 19 * 129 := Nat.mul_le_mul (by omega) (by omega)
  have hencx := encSpec_data (w := w) (by omega) (by omega) g2 (by omega) (by omega)
  have hency := encSpec_data (w := w) (by omega) (by omega) hrep (by rw [List.length_append, List.length_replicate]; omega) (by omega)
  obtain ⟨x, hx'⟩ : ∃ x, x = (packN (codeOf w rs' ++ bitsMS 1 8)).map UInt8.ofNat := ⟨_, rfl⟩
  obtain ⟨y, hy'⟩ : ∃ y, y = (packN (codeOf w (rs' ++ List.replicate (8 * tt) r) ++ bitsMS 1 8)).map UInt8.ofNat := ⟨_, rfl⟩
  have hxl : x.length = ((codeOf w rs').length + 15) / 8 := by
    rw [hx', List.length_map, packN_length, List.length_append, bitsMS_length]
  have hyl : y.length = x.length + tt * (cg + 1) := by
    rw [hy', List.length_map, packN_length, List.length_append, bitsMS_length, hcs, hxl]
    omega
  rw [← hx'] at hencx
  rw [← hy'] at hency
  rw [dataOf_append, ← repeatL_data] at hency
  -- the row's bits
  have hrb : (strBits (dataOf w [r])).take w = r := by
    have : dataOf w [r] = (packN (rowOut w r)).map UInt8.ofNat := by simp [dataOf]
    rw [this, strBits_pack, rowOut_row g3, List.append_assoc, List.take_left' g3]
  have hRl : (dataOf w [r]).length = n := by rw [dataOf_len, hn]; simp
  generalize dataOf w [r] = R at *
  generalize dataOf w rs' = data' at *
  generalize dataOf w rs = data at *
  have eq1 : ((w : Int) + 7).tdiv 8 = n := by rw [Int.tdiv_eq_ediv_of_nonneg (by omega)]; omega
  have hsub : asubS data' (some (.int .i64 ((data'.length : Int) - n))) none = some (.str R) := by
    have := asubS_from (s := data') (i := (data'.length : Int) - n) (k := .i64) (by omega) (by omega)
    rw [this, show ((data'.length : Int) - n).toNat = data'.length - n by omega, g6]
  simp (disch := omega) [go_sem, hbA1]
  refine h3.use fun s2 hs2 => ?_
  have hE2 := hE1.trans hs2
  have hbA2 := rd_all ((hx2.trans hs2).get hs1.wf hbx1) (k := 2) rfl
  simp (disch := omega) [go_sem]
  refine ⟨by simp [reI, dfind, wanted, go_sem, hbA2], ?_⟩
  refine (t3 hs2.wf).use fun s3 hs3 => ?_
  have hE3 := hE2.trans hs3
  have n3 := hE3.nx
  have hz : data.length < n → call T (.fn 13 [] []) [.str [0], .int .i64 n] s3 = some (.str data', s3) := fun h => by
    rw [if_pos h] at g5
    rw [repeat_call hE13 (by omega) (by simp; omega), repeatL_zero n, g5]
  have hd0 : 0 ≤ (data'.length : Int) - n := by omega
  have ht1 : (tm : Int).tmod 20 = (tt : Nat) := by rw [Int.tmod_eq_emod_of_nonneg (by omega)]; omega
  have ht2 : (tt : Int) % 256 = tt := by omega
  have hrl : (Lib.repeatL R (8 * tt)).length ≤ 152 * 16 := by
    rw [Lib.repeatL_length, hRl]
    exact Nat.mul_le_mul (by omega) (by omega)
  have hz2 : ∀ s : St, call T (.fn 13 [] []) [.str R, .int .i64 (8 * (tt : Int))] s = some (.str (Lib.repeatL R (8 * tt)), s) := fun s => by
    have hle : R.length * (8 * tt) ≤ 16 * 152 := Nat.mul_le_mul (by omega) (by omega)
    have := repeat_call (T := T) (st := s) hE13 (s := R) (n := 8 * tt) (by omega) (by omega)
    rw [← this]
    push_cast
    rfl
  generalize Lib.repeatL R (8 * tt) = more at *
  have hcat : data'.length + more.length < 4611686018427387904 := by omega
  obtain ⟨Z, hZ⟩ : ∃ Z : Nat, Z = tt * (cg + 1) := ⟨_, rfl⟩
  have hZi : (tt : Int) * ((cg : Int) + 1) = (Z : Int) := by rw [hZ]; push_cast; rfl
  rw [← hZ] at hyl
  rw [← hZ] at hcm2
  have hyl' : (y.length : Int) = x.length + Z := by omega
  have key : data.length < n ∨ data = data' := by
    by_cases h : data.length < n
    · exact .inl h
    · rw [if_neg h] at g5; exact .inr g5
  rcases key with hshort | he
  · have hz := hz hshort
    have hshort' : (data.length : Int) < n := by omega
    simp (disch := omega) [go_sem, wrap64, eq1, hshort', hz, hsub]
    refine (same_loop (st := s3) (R := R) (w := w) (by omega) (by omega) (u1 := .int .u8 tm) (u5 := .str data') (u6 := .int .i64 w) w 0 0 false _ (by omega) (by omega) ?_ ?_ ?_ ?_ ?_ ?_ ?_ ?_).mono ?_
    all_goals first | (simp [go_sem]; done) | skip
    rintro q e s4 ⟨rfl, rfl, k1, k5, k6, k8, k9⟩
    rw [List.drop_zero, hrb, Nat.zero_add, ← hcg] at k9
    have t4 := encode_tells (T := T) H hE3.wf (by omega) data' w (by omega)
    rw [hencx] at t4
    simp (disch := omega) [go_sem, k1, k5, k6, k8, k9]
    refine t4.use fun s5 hs5 => ?_
    have hE5 := hE3.trans hs5
    have n5 := hE5.nx
    have t5 := encode_tells (T := T) H hE5.wf (by omega) (data' ++ more) w (by rw [List.length_append]; omega)
    rw [hency] at t5
    simp (disch := omega) [go_sem, k1, k5, k6, k8, k9, ht1, ht2, wrap_u8, wrap64, hz2, hcat]
    refine t5.use fun s6 hs6 => ?_
    have hE6 := hE5.trans hs6
    simp (disch := omega) [go_sem, ht1, ht2, wrap_u8, wrap64, hZi, hyl', hE6]
  · subst he
    have hshort' : ¬ (data.length : Int) < n := by omega
    simp (disch := omega) [go_sem, wrap64, eq1, hshort', hsub]
    refine (same_loop (st := s3) (R := R) (w := w) (by omega) (by omega) (u1 := .int .u8 tm) (u5 := .str data) (u6 := .int .i64 w) w 0 0 false _ (by omega) (by omega) ?_ ?_ ?_ ?_ ?_ ?_ ?_ ?_).mono ?_
    all_goals first | (simp [go_sem]; done) | skip
    rintro q e s4 ⟨rfl, rfl, k1, k5, k6, k8, k9⟩
    rw [List.drop_zero, hrb, Nat.zero_add, ← hcg] at k9
    have t4 := encode_tells (T := T) H hE3.wf (by omega) data w (by omega)
    rw [hencx] at t4
    simp (disch := omega) [go_sem, k1, k5, k6, k8, k9]
    refine t4.use fun s5 hs5 => ?_
    have hE5 := hE3.trans hs5
    have n5 := hE5.nx
    have t5 := encode_tells (T := T) H hE5.wf (by omega) (data ++ more) w (by rw [List.length_append]; omega)
    rw [hency] at t5
    simp (disch := omega) [go_sem, k1, k5, k6, k8, k9, ht1, ht2, wrap_u8, wrap64, hz2, hcat]
    refine t5.use fun s6 hs6 => ?_
    have hE6 := hE5.trans hs6
    simp (disch := omega) [go_sem, ht1, ht2, wrap_u8, wrap64, hZi, hyl', hE6]

end Go.Ev

/- The law FaxKnown on the evaluator: the examples, the limits, the order of errors. -/
namespace Go.Ev
open Go
set_option linter.unusedSimpArgs false
set_option linter.unusedVariables false

variable {T : Tab} {st : St}

theorem packN_ones (q : Nat) : packN (List.replicate (8 * q) true) = List.replicate q 255 := by
  apply List.ext_getElem?
  intro i
  rw [List.getElem?_replicate]
  by_cases h : i < q
  · rw [if_pos h, packN_get (by rw [List.length_replicate]; omega)]
    have : chunk (List.replicate (8 * q) true) i = List.replicate 8 true := by
      simp only [chunk]
      rw [List.drop_replicate, List.take_replicate]
      congr 1
      omega
    rw [this]
    rfl
  · rw [if_neg h, List.getElem?_eq_none (by rw [packN_length, List.length_replicate]; omega)]
theorem repeatL_one (b : UInt8) : ∀ m, Lib.repeatL [b] m = List.replicate m b
  | 0 => rfl
  | m + 1 => by rw [Lib.repeatL, repeatL_one b m]; rfl
theorem pack_ones (q : Nat) (B : List Bool) : (packN (List.replicate (8 * q) true ++ B)).map UInt8.ofNat = Lib.repeatL [255] q ++ (packN B).map UInt8.ofNat := by
  rw [packN_append (q := q) (by rw [List.length_replicate]), List.map_append, packN_ones, List.map_replicate, repeatL_one]
  rfl

/-- White rows. -/
theorem dec_white (m : Nat) (hm : m ≤ 100000) : decSpec ((packN (List.replicate m true ++ bitsMS 1 8)).map UInt8.ofNat) 8 = if 65536 < m then ([], 0, 3) else (Lib.repeatL [0] m, (((m + 15) / 8 : Nat) : Int), 0) := by
  have h1 : codeOf 8 (List.replicate m (List.replicate 8 false)) = List.replicate m true := by
    unfold codeOf
    rw [codeRows_same (r := List.replicate 8 false) (by simp) (by omega) (by omega)]
    have : chg (List.replicate 8 false) false = 0 := by decide
    rw [this, Nat.zero_add, Nat.mul_one]
  have h2 := decSpec_code (w := 8) (by omega) (by omega) (rs := List.replicate m (List.replicate 8 false)) (fun r hr => by rw [(List.mem_replicate.1 hr).2]; simp) (more := []) (by rw [h1, List.length_replicate, List.length_nil]; omega)
  rw [h1, List.append_nil, List.length_replicate, List.length_replicate, ← repeatL_data, dataOf_white] at h2
  rw [show (8 + 7) / 8 = 1 from rfl, Nat.mul_one, List.replicate_one] at h2
  exact h2

theorem known_full : decSpec (Lib.repeatL [255] 8192 ++ [1]) 8 = (Lib.repeatL [0] 65536, 8193, 0) := by
  have h1 := dec_white 65536 (by decide)
  obtain ⟨q, hq⟩ : ∃ q, q = 8192 := ⟨_, rfl⟩
  have e1 : (65536 : Nat) = 8 * q := by omega
  rw [if_neg (by decide), e1, pack_ones] at h1
  rw [show (packN (bitsMS 1 8)).map UInt8.ofNat = [1] from by decide] at h1
  rw [← hq, h1, e1, hq]
  rfl
theorem known_long : (decSpec (Lib.repeatL [255] 8192 ++ [128, 128]) 8).2.2 = 3 := by
  have h1 := dec_white 65537 (by decide)
  obtain ⟨q, hq⟩ : ∃ q, q = 8192 := ⟨_, rfl⟩
  have e1 : List.replicate 65537 true ++ bitsMS 1 8 = List.replicate (8 * q) true ++ ([true] ++ bitsMS 1 8) := by
    rw [← List.append_assoc, show [true] = List.replicate 1 true from rfl, List.replicate_append_replicate, show 8 * q + 1 = 65537 by omega]
  rw [if_pos (by decide), e1, pack_ones] at h1
  rw [show (packN ([true] ++ bitsMS 1 8)).map UInt8.ofNat = [128, 128] from by decide] at h1
  rw [← hq, h1]
theorem known_arg : (encSpec (Lib.repeatL [97] 65537) 0).2 = 3 := by
  obtain ⟨q, hq⟩ : ∃ q, q = 65537 := ⟨_, rfl⟩
  rw [← hq]
  unfold encSpec
  rw [if_pos (by rw [Lib.repeatL_length, List.length_singleton]; omega)]

theorem codes_ok (H : B.HasFax T) (hwf : st.Wf) (h0 : 1 < st.nx) {s w : List UInt8} (h : codesB s w = true) (hs : s.length < 1000) (hw : ∀ b ∈ w, b = 48 ∨ b = 49) (hlen : w.length < 1000) : Tells T st (.fn 14 [] []) [.str s, .str w] (.bool true) := by
  have := codes_tells H hwf h0 hs hw hlen
  rw [h] at this
  exact this

theorem kn1 : codesB [255] [48, 48, 49, 49, 48, 48, 48, 49, 48, 48, 49, 48, 48, 48, 48, 48, 48, 48, 49] = true := by decide +kernel
theorem kn2 : codesB [128] [48, 48, 49, 49, 48, 49, 48, 49, 48, 48, 48, 48, 48, 48, 48, 49] = true := by decide +kernel
theorem kn3 : codesB [1] [48, 49, 48, 49, 48, 48, 48, 48, 48, 48, 48, 49] = true := by decide +kernel
def knFirst : List UInt8 := [48, 48, 49, 48, 48, 49, 48, 48, 48, 49, 48, 49]
def knSecond : List UInt8 := [48, 48, 49, 48, 49, 49, 48, 49, 49, 49]
theorem kn4 : codesB [16, 8] (knFirst ++ [48, 49, 49] ++ [48, 48, 48, 48, 48, 49, 48] ++ [49] ++ [48, 48, 48, 48, 48, 48, 48, 49]) = true := by decide +kernel
theorem kn5 : codesB [16, 4] (knFirst ++ [48, 48, 48, 49] ++ [48, 48, 48, 48, 48, 49, 48] ++ [48, 48, 48, 48, 49, 48] ++ [49] ++ [48, 48, 48, 48, 48, 48, 48, 49]) = true := by decide +kernel
theorem kn6 : codesB [48, 24] (knSecond ++ [48, 49, 49] ++ [48, 49, 49] ++ [49] ++ [48, 48, 48, 48, 48, 48, 48, 49]) = true := by decide +kernel
theorem kn7 : codesB [48, 56] (knSecond ++ [49] ++ [48, 49, 49] ++ [49] ++ [48, 48, 48, 48, 48, 48, 48, 49]) = true := by decide +kernel
theorem kn8 : codesB [48, 224] (knSecond ++ [48, 48, 48, 48, 49, 48] ++ [48, 49, 48] ++ [49] ++ [48, 48, 48, 48, 48, 48, 48, 49]) = true := by decide +kernel
theorem kn9 : (encSpec [97] 9).2 = 170 := by decide +kernel
theorem kn10 : (encSpec [1] 7).2 = 170 := by decide +kernel
theorem kn11 : (decSpec [] 0).2.2 = 2 := by decide +kernel
theorem kn12 : (decSpec [1] 129).2.2 = 2 := by decide +kernel

theorem faxKnown_law (H : B.HasFax T) (hE13 : T.en 13 = some repeatE) (hwf : st.Wf) (h0 : 1 < st.nx) : Tells T st (.fn 5 [] []) [] (.bool true) := by
  refine tells_of H.e5 H.f5 rfl ?_
  obtain ⟨A1, hA1⟩ : ∃ A, A = Lib.repeatL [97] 65537 := ⟨_, rfl⟩
  obtain ⟨A2, hA2⟩ : ∃ A, A = Lib.repeatL [255] 8192 := ⟨_, rfl⟩
  obtain ⟨A3, hA3⟩ : ∃ A, A = Lib.repeatL [0] 65536 := ⟨_, rfl⟩
  have r1 : ∀ s : St, call T (.fn 13 [] []) [.str [97], .int .i64 65537] s = some (.str A1, s) := fun s => by
    rw [hA1]; exact repeat_call (T := T) (st := s) hE13 (s := [97]) (n := 65537) (by decide) (by decide)
  have r2 : ∀ s : St, call T (.fn 13 [] []) [.str [255], .int .i64 8192] s = some (.str A2, s) := fun s => by
    rw [hA2]; exact repeat_call (T := T) (st := s) hE13 (s := [255]) (n := 8192) (by decide) (by decide)
  have r3 : ∀ s : St, call T (.fn 13 [] []) [.str [0], .int .i64 65536] s = some (.str A3, s) := fun s => by
    rw [hA3]; exact repeat_call (T := T) (st := s) hE13 (s := [0]) (n := 65536) (by decide) (by decide)
  have l1 : A1.length = 65537 := by rw [hA1, Lib.repeatL_length]; rfl
  have l2 : A2.length = 8192 := by rw [hA2, Lib.repeatL_length]; rfl
  have k1 := known_arg
  have k2 := known_full
  have k3 := known_long
  rw [← hA1] at k1
  rw [← hA2] at k2 k3
  rw [← hA3] at k2
  clear hA1 hA2 hA3
  simp (disch := omega) [B.chaselaw07_FaxKnown, go_sem]
  refine (works_tells H hwf h0).use fun s1 hE1 => ?_
  simp (disch := omega) [go_sem]
  refine (codes_ok H hE1.wf (by have := hE1.nx; omega) kn1 (by decide) (by decide) (by decide)).use fun s2 hs2 => ?_
  have hE2 := hE1.trans hs2
  simp (disch := omega) [go_sem]
  refine (codes_ok H hE2.wf (by have := hE2.nx; omega) kn2 (by decide) (by decide) (by decide)).use fun s3 hs3 => ?_
  have hE3 := hE2.trans hs3
  simp (disch := omega) [go_sem]
  refine (codes_ok H hE3.wf (by have := hE3.nx; omega) kn3 (by decide) (by decide) (by decide)).use fun s4 hs4 => ?_
  have hE4 := hE3.trans hs4
  simp (disch := omega) [go_sem]
  refine (codes_ok H hE4.wf (by have := hE4.nx; omega) kn4 (by decide) (by decide) (by decide)).use fun s5 hs5 => ?_
  have hE5 := hE4.trans hs5
  simp (disch := omega) [go_sem]
  refine (codes_ok H hE5.wf (by have := hE5.nx; omega) kn5 (by decide) (by decide) (by decide)).use fun s6 hs6 => ?_
  have hE6 := hE5.trans hs6
  simp (disch := omega) [go_sem]
  refine (codes_ok H hE6.wf (by have := hE6.nx; omega) kn6 (by decide) (by decide) (by decide)).use fun s7 hs7 => ?_
  have hE7 := hE6.trans hs7
  simp (disch := omega) [go_sem]
  refine (codes_ok H hE7.wf (by have := hE7.nx; omega) kn7 (by decide) (by decide) (by decide)).use fun s8 hs8 => ?_
  have hE8 := hE7.trans hs8
  simp (disch := omega) [go_sem]
  refine (codes_ok H hE8.wf (by have := hE8.nx; omega) kn8 (by decide) (by decide) (by decide)).use fun s9 hs9 => ?_
  have hE9 := hE8.trans hs9
  simp (disch := omega) [go_sem]
  have t9 := encode_tells (T := T) H hE9.wf (by have := hE9.nx; omega) [97] 9 (by decide)
  refine t9.use fun s10 hs10 => ?_
  have hE10 := hE9.trans hs10
  simp (disch := omega) [go_sem, kn9]
  have t10 := encode_tells (T := T) H hE10.wf (by have := hE10.nx; omega) [1] 7 (by decide)
  refine t10.use fun s11 hs11 => ?_
  have hE11 := hE10.trans hs11
  simp (disch := omega) [go_sem, kn10, r1]
  have t11 := encode_tells (T := T) H hE11.wf (by have := hE11.nx; omega) A1 0 (by omega)
  refine t11.use fun s12 hs12 => ?_
  have hE12 := hE11.trans hs12
  simp (disch := omega) [go_sem, k1]
  have t12 := decode_tells (T := T) H hE12.wf (by have := hE12.nx; omega) [] 0 (by decide)
  refine t12.use fun s13 hs13 => ?_
  have hE13 := hE12.trans hs13
  simp (disch := omega) [go_sem, kn11]
  have t13 := decode_tells (T := T) H hE13.wf (by have := hE13.nx; omega) [1] 129 (by decide)
  refine t13.use fun s14 hs14 => ?_
  have hE14 := hE13.trans hs14
  simp (disch := omega) [go_sem, kn12, r2, l2]
  have t14 := decode_tells (T := T) H hE14.wf (by have := hE14.nx; omega) (A2 ++ [1]) 8 (by rw [List.length_append, l2]; decide)
  refine t14.use fun s15 hs15 => ?_
  have hE15 := hE14.trans hs15
  simp (disch := omega) [go_sem, k2, r2, l2]
  have t15 := decode_tells (T := T) H hE15.wf (by have := hE15.nx; omega) (A2 ++ [128, 128]) 8 (by rw [List.length_append, l2]; decide)
  refine t15.use fun s16 hs16 => ?_
  have hE16 := hE15.trans hs16
  simp (disch := omega) [go_sem, k3]
  refine (works_tells H hE16.wf (by have := hE16.nx; omega)).use fun s17 hs17 => ?_
  have hE17 := hE16.trans hs17
  simp (disch := omega) [go_sem]
  have hse := seq8_iff.2 (rfl : A3 = A3)
  simp (disch := omega) [go_sem, r3, hse, hE17]

end Go.Ev
