/- The reference's rows: what they tell. -/
import Derived.Test.YtglndmkmfhafhaaEvFaxC
import Derived.Test.YtglndmkmfhafhaaEvR
namespace Go.Ev
open Go
set_option linter.unusedSimpArgs false
set_option linter.unusedVariables false

variable {T : Tab} {st : St}

theorem Rd.slice {h : Heap} {v : AV} {es k : Nat} {cs : List AV} (a : Rd h v es k cs) (hk : 0 < k) : ∃ n off cp, v = .slice n off k cp ∧ rdCells h n off (k * es) = some cs := by
  rcases a with ⟨h1, h2, h3⟩ | a
  · omega
  · exact a

theorem pixel_tells (H : B.HasFax T) (hwf : st.Wf) {row : List Bool} {v : AV} (hv : Rd st.h v 1 row.length (ints row)) (hl : row.length < 1000000) {i : Int} (h0 : -1 ≤ i) (h1 : i < row.length) :
    Tells T st (.fn 45 [] []) [v, .int .i64 i] (.int .i64 ((decide (0 ≤ i) && bit row i).toNat : Nat)) := by
  refine tells_of H.e45 H.f45 rfl ?_
  by_cases hi : i < 0
  · simp (disch := omega) [B.chaseref07_pixel, go_sem, hi, Ext.refl hwf]
    rw [decide_eq_false (by omega)]; rfl
  · obtain ⟨n, off, cp, rfl, hr⟩ := hv.slice (by omega)
    have hg := rdCells_get hr (i := i.toNat) (by omega)
    rw [ints_get (by omega)] at hg
    have h2 : 0 ≤ i := by omega
    simp (disch := omega) [B.chaseref07_pixel, go_sem, hi, h2, h1, hg, Ext.refl hwf, bit]

theorem change_loop {row : List Bool} {c : Bool} {p : Int → Bool} (hp : ∀ i, p i = (bit row i != c)) {n off : Nat} {cp : Cap} (hr : rdCells st.h n off (row.length * 1) = some (ints row)) (hl : row.length < 1000000) :
    ∀ (k : Nat) (i : Int) (e : Env), ((row.length : Int) - i).toNat = k → 0 ≤ i → i ≤ row.length → eget e 0 = .slice n off row.length cp → eget e 2 = .int .i64 (c.toNat : Nat) → eget e 7 = .int .i64 i →
    Res (run T (.loop B.chaseref07_Change_l0) e st) fun q e' s => q = .exit 0 ∧ s = st ∧ eget e' 7 = .int .i64 (firstN p i k) := by
  intro k
  induction k with
  | zero =>
    intro i e hk h0 h1 g0 g2 g7
    have hi : ¬ i < row.length := by omega
    rw [run_loop]
    simp (disch := omega) [B.chaseref07_Change_l0, go_sem, g0, g2, g7, hi, firstN]
  | succ k ih =>
    intro i e hk h0 h1 g0 g2 g7
    have hi : i < row.length := by omega
    have hg := rdCells_get hr (i := i.toNat) (by omega)
    rw [ints_get (by omega)] at hg
    have hb : row.getD i.toNat false = bit row i := rfl
    rw [hb] at hg
    rw [run_loop]
    have hpi := hp i
    cases hx : bit row i <;> cases c <;> rw [hx] at hpi <;>
    simp (disch := omega) [B.chaseref07_Change_l0, go_sem, g0, g2, g7, hi, firstN, h0, hg, hx, wrap64, hpi]
    all_goals
      refine ih (i + 1) _ (by omega) (by omega) (by omega) ?_ ?_ ?_
      · simp [go_sem]
      · simp [go_sem]
      · simp [go_sem]

theorem change_tells (H : B.HasFax T) (hwf : st.Wf) {row : List Bool} {v : AV} (hv : Rd st.h v 1 row.length (ints row)) (hl : row.length < 1000000) (hl0 : 0 < row.length) {a : Int} {c : Bool} (h0 : -1 ≤ a) (h1 : a < 1000000) :
    Tells T st (.fn 32 [] []) [v, .int .i64 a, .int .i64 (c.toNat : Nat)] (.int .i64 (firstZ (fun i => bit row i != c) (max (a + 1) 0) row.length)) := by
  refine tells_of H.e32 H.f32 rfl ?_
  obtain ⟨n, off, cp, rfl, hr⟩ := hv.slice hl0
  have hm : (if a + 1 < 0 then 0 else a + 1) = max (a + 1) 0 := by omega
  have hm2 : (if (row.length : Int) < max (a + 1) 0 then (row.length : Int) else max (a + 1) 0) = min (max (a + 1) 0) row.length := by omega
  simp (disch := omega) [B.chaseref07_Change, go_sem, wrap64, hm, hm2]
  refine (change_loop (c := c) (fun _ => rfl) (off := off) (cp := cp) hr hl _ (min (max (a + 1) 0) row.length) _ rfl (by omega) (by omega) ?_ ?_ ?_).mono ?_
  · simp [go_sem]
  · simp [go_sem]
  · simp [go_sem]
  rintro q e s ⟨rfl, rfl, g7⟩
  simp [go_sem, g7, firstZ, Ext.refl hwf]

theorem edge_loop (H : B.HasFax T) (hwf0 : st.Wf) {row : List Bool} {c : Bool} {p : Int → Bool} (hp : ∀ i, p i = edgeP row c i) {v : AV} {n off : Nat} {cp : Cap} (hv : v = .slice n off row.length cp) (hr : rdCells st.h n off (row.length * 1) = some (ints row)) (hl : row.length < 1000000) :
    ∀ (k : Nat) (i : Int) (e : Env) (st1 : St), Ext st st1 → ((row.length : Int) - i).toNat = k → 0 ≤ i → i ≤ row.length → eget e 0 = v → eget e 2 = .int .i64 (c.toNat : Nat) → eget e 7 = .int .i64 i →
    Res (run T (.loop B.chaseref07_Edge_l0) e st1) fun q e' s => q = .exit 0 ∧ Ext st s ∧ eget e' 7 = .int .i64 (firstN p i k) := by
  intro k
  induction k with
  | zero =>
    intro i e st1 hx hk h0 h1 g0 g2 g7
    have hi : ¬ i < row.length := by omega
    rw [run_loop]
    simp (disch := omega) [B.chaseref07_Edge_l0, go_sem, g0, hv, g2, g7, hi, firstN, hx]
    try exact hx
  | succ k ih =>
    intro i e st1 hx hk h0 h1 g0 g2 g7
    have hi : i < row.length := by omega
    have hrd : Rd st.h v 1 row.length (ints row) := .inr ⟨_, _, _, hv, hr⟩
    obtain ⟨_, _, _, hv', hr1⟩ := (hrd.ext hx hwf0).slice (by omega)
    rw [hv] at hv'
    injection hv' with e1 e2 e3 e4
    subst e1; subst e2
    have hg := rdCells_get hr1 (i := i.toNat) (by omega)
    rw [ints_get (by omega)] at hg
    have hb : row.getD i.toNat false = bit row i := rfl
    rw [hb] at hg
    have hpx := pixel_tells H hx.wf (hrd.ext hx hwf0) hl (i := i - 1) (by omega) (by omega)
    rw [show decide (0 ≤ i - 1) = decide (0 < i) by simp; omega] at hpx
    rw [run_loop]
    have hpi := hp i
    simp only [edgeP] at hpi
    by_cases hbc : bit row i = c
    · have hne : (bit row i != c) = false := by simp [hbc]
      rw [hne] at hpi
      simp (disch := omega) [B.chaseref07_Edge_l0, go_sem, g0, hv, g2, g7, hi, h0, hg, hbc, wrap64, firstN, hpi]
      refine ih (i + 1) _ st1 hx (by omega) (by omega) (by omega) ?_ ?_ ?_
      · simp [go_sem, hv]
      · simp [go_sem]
      · simp [go_sem]
    · have hne : (bit row i != c) = true := by simpa using hbc
      have hne2 : ¬ (((bit row i).toNat : Int) = (c.toNat : Int)) := by cases hx : bit row i <;> cases c <;> simp_all
      rw [hne] at hpi
      simp (disch := omega) [B.chaseref07_Edge_l0, go_sem, g0, hv, g2, g7, hi, h0, hg, hne2, wrap64]
      rw [← hv]
      refine hpx.use fun s hs => ?_
      rw [show decide (i > 0) = decide (0 < i) from rfl] at hpi
      generalize (decide (0 < i) && bit row (i - 1)) = q at hpi
      cases q <;> cases c <;> simp only [Bool.true_and] at hpi <;>
      simp (disch := omega) [go_sem, wrap64, firstN, hpi]
      all_goals first
        | exact hx.trans hs
        | (refine ih (i + 1) _ s (hx.trans hs) (by omega) (by omega) (by omega) ?_ ?_ ?_
           · simp [go_sem, hv]
           · simp [go_sem]
           · simp [go_sem])

theorem edge_tells (H : B.HasFax T) (hwf : st.Wf) {row : List Bool} {v : AV} (hv : Rd st.h v 1 row.length (ints row)) (hl : row.length < 1000000) (hl0 : 0 < row.length) {a : Int} {c : Bool} (h0 : -1 ≤ a) (h1 : a < row.length) :
    Tells T st (.fn 33 [] []) [v, .int .i64 a, .int .i64 (c.toNat : Nat)] (.int .i64 (firstZ (edgeP row c) (max (a + 1) 0) row.length)) := by
  refine tells_of H.e33 H.f33 rfl ?_
  obtain ⟨n, off, cp, rfl, hr⟩ := hv.slice hl0
  have hm : (if a + 1 < 0 then 0 else a + 1) = max (a + 1) 0 := by omega
  have hm2 : min (max (a + 1) 0) (row.length : Int) = max (a + 1) 0 := by omega
  simp (disch := omega) [B.chaseref07_Edge, go_sem, wrap64, hm]
  refine (edge_loop H hwf (c := c) (p := edgeP row c) (fun _ => rfl) (cp := cp) rfl hr hl _ (max (a + 1) 0) _ st (.refl hwf) rfl (by omega) (by omega) ?_ ?_ ?_).mono ?_
  · simp [go_sem]
  · simp [go_sem]
  · simp [go_sem]
  rintro q e s ⟨rfl, hx, g7⟩
  simp [go_sem, g7, firstZ, hx, hm2]

/-- A call that makes a slice of its own. -/
def Makes (T : Tab) (st : St) (f : AV) (args : List AV) (ty es k : Nat) (cs : List AV) : Prop := CRes (call T f args st) fun v s => Ext st s ∧ Sl s v ty es k cs ∧ Mine [] st v
theorem Makes.use {f : AV} {args : List AV} {ty es k : Nat} {cs : List AV} {Q : AV → St → Prop} (h : Makes T st f args ty es k cs) (hq : ∀ v s, Ext st s → Sl s v ty es k cs → Mine [] st v → Q v s) : CRes (call T f args st) Q :=
  CRes.mono h fun v s ⟨h1, h2, h3⟩ => hq v s h1 h2 h3
theorem makes_of {k : Nat} {mf : MFun} (hen : T.en k = none) (hf : T.fn k = some mf) {first args cap : List AV} (hl : (first ++ args ++ cap).length = mf.nargs) {ty es n : Nat} {cs : List AV}
    (hr : Res (run T mf.body (argEnv 0 (first ++ args ++ cap)) st) fun x e s => (x = .norm ∨ x = .ret) ∧ ∃ v, fresults s.h e mf.results = some v ∧ Ext st s ∧ Sl s v ty es n cs ∧ Mine [] st v) :
    Makes T st (.fn k first cap) args ty es n cs :=
  call_res hen hf hl (hr.mono fun _ _ _ ⟨h1, v, h2, h3, h4, h5⟩ => ⟨h1, v, h2, h3.dropLoc, h4.dropLoc h3.wf, h5⟩)
theorem Frm.ext0 {s : St} (h : Frm [] st s) : Ext st s := h.ext (by simp)

def wordBits (s : List UInt8) : List Bool := s.map (· == 49)

theorem word_loop {w : List UInt8} (hw : ∀ b ∈ w, b = 48 ∨ b = 49) (hlen : w.length < 1000) : ∀ (m i : Nat) (s : St) (v : AV) (L : List Bool) (e : Env), i + m = w.length → L.length = i → Frm [] st s → Sl s v 3 1 i (ints L) → Mine [] st v →
    eget e 0 = .str w → eget e 3 = v → eget e 4 = .int .i64 i →
    Res (run T (.loop B.chaseref07_word_l0) e s) fun q e' s' => q = .exit 0 ∧ Frm [] st s' ∧ Sl s' (eget e' 3) 3 1 w.length (ints (L ++ wordBits (w.drop i))) ∧ Mine [] st (eget e' 3) := by
  intro m
  induction m with
  | zero =>
    intro i s v L e hi hL hF hS hM g0 g3 g4
    have hil : ¬ (i : Int) < w.length := by omega
    have hd : w.drop i = [] := List.drop_eq_nil_of_le (by omega)
    rw [run_loop]
    simp (disch := omega) [B.chaseref07_word_l0, go_sem, g0, g3, g4, hil, hd, wordBits]
    exact ⟨hF, by rw [show w.length = i by omega]; exact hS, hM⟩
  | succ m ih =>
    intro i s v L e hi hL hF hS hM g0 g3 g4
    have hil : (i : Int) < w.length := by omega
    have hil' : i < w.length := by omega
    have hb := hw w[i] (by simp)
    have hd : wordBits (w.drop i) = (w[i] == 49) :: wordBits (w.drop (i + 1)) := by rw [List.drop_eq_getElem_cons hil']; rfl
    rw [hd]
    have hval : ((w[i].toNat : Int) - 48) = (((w[i] == 49) : Bool).toNat : Nat) := by rcases hb with h | h <;> rw [h] <;> rfl
    have hw64 : IntKind.i64.wrap (w[i].toNat : Int) = w[i].toNat := wrap64 (by omega) (by have := w[i].toNat_lt; omega)
    have hw64' : IntKind.i64.wrap ((w[i].toNat : Int) - 48) = (((w[i] == 49) : Bool).toNat : Nat) := by rw [hval]; cases (w[i] == 49) <;> rfl
    rw [run_loop]
    simp (disch := omega) [B.chaseref07_word_l0, go_sem, g0, g3, g4, hil, hil', hw64, hw64']
    refine Sl.push hF hM hS rfl (by omega) (by omega) fun v' s' hS' hF' hM' _ => ?_
    simp (disch := omega) [go_sem, wrap64]
    refine (ih (i + 1) s' v' (L ++ [w[i] == 49]) _ (by omega) (by simp [hL]) hF' (by rw [ints_append]; exact hS') hM' ?_ ?_ ?_).mono ?_
    · simp [go_sem]
    · simp [go_sem]
    · simp [go_sem]
    rintro q e2 s2 ⟨rfl, h1, h2, h3⟩
    refine ⟨rfl, h1, ?_, h3⟩
    rw [List.append_assoc] at h2
    exact h2

theorem word_makes (H : B.HasFax T) (hwf : st.Wf) {w : List UInt8} (hw : ∀ b ∈ w, b = 48 ∨ b = 49) (hlen : w.length < 1000) : Makes T st (.fn 22 [] []) [.str w] 3 1 w.length (ints (wordBits w)) := by
  refine makes_of H.e22 H.f22 rfl ?_
  simp (disch := omega) [B.chaseref07_word, go_sem]
  refine (word_loop hw hlen w.length 0 st .nilslice [] _ (by omega) rfl (.refl hwf _) (.nil _ _ _) (.nil _ _) ?_ ?_ ?_).mono ?_
  · simp [go_sem]
  · simp [go_sem]
  · simp [go_sem]
  rintro q e s ⟨rfl, h1, h2, h3⟩
  simp [go_sem]
  exact ⟨h1.ext0, by simpa using h2, h3⟩

theorem vert_bits {d : Int} (h0 : -3 ≤ d) (h1 : d ≤ 3) : ∃ w : List UInt8, (∀ b ∈ w, b = 48 ∨ b = 49) ∧ w.length < 1000 ∧ wordBits w = pairBits [vertP d] ∧
    [AV.str [48, 48, 48, 48, 48, 49, 48], .str [48, 48, 48, 48, 49, 48], .str [48, 49, 48], .str [49], .str [48, 49, 49], .str [48, 48, 48, 48, 49, 49], .str [48, 48, 48, 48, 48, 49, 49]][(d + 3).toNat]? = some (.str w) := by
  have hd : d = -3 ∨ d = -2 ∨ d = -1 ∨ d = 0 ∨ d = 1 ∨ d = 2 ∨ d = 3 := by omega
  rcases hd with rfl | rfl | rfl | rfl | rfl | rfl | rfl
  all_goals exact ⟨_, by decide, by decide, by decide, rfl⟩

theorem wordBits_length (w : List UInt8) : (wordBits w).length = w.length := by simp [wordBits]

theorem vert_makes (H : B.HasFax T) (hwf : st.Wf) {d : Int} (h0 : -3 ≤ d) (h1 : d ≤ 3) : Makes T st (.fn 34 [] []) [.int .i64 d] 3 1 (pairBits [vertP d]).length (ints (pairBits [vertP d])) := by
  refine makes_of H.e34 H.f34 rfl ?_
  obtain ⟨w, hw1, hw2, hw3, hw4⟩ := vert_bits h0 h1
  have h5 : 0 ≤ d + 3 ∧ d + 3 < 7 := by omega
  simp (disch := omega) [B.chaseref07_Vertical, go_sem, wrap64, h5, hw4]
  refine (word_makes H hwf hw1 hw2).use fun v s hx hs hm => ?_
  rw [← hw3, wordBits_length]
  simp [go_sem]
  exact ⟨hx, hs, hm⟩

end Go.Ev

/- The reference's runs and bits. -/
namespace Go.Ev
open Go
set_option linter.unusedSimpArgs false
set_option linter.unusedVariables false

variable {T : Tab} {st : St}

def powr (j : Nat) : Nat := if j = 0 then 0 else 2 ^ (j - 1)
theorem powr_succ (j : Nat) : powr (j + 1) = 2 ^ j := by simp [powr]
theorem powr_half (j : Nat) : ((powr (j + 1) : Nat) : Int).tdiv 2 = (powr j : Nat) := by
  rw [Int.tdiv_eq_ediv_of_nonneg (by omega)]
  have : powr (j + 1) / 2 = powr j := by
    cases j with
    | zero => rfl
    | succ j =>
      rw [powr_succ, powr_succ, Nat.pow_succ, Nat.mul_div_cancel _ (by omega)]
  omega
theorem powr_pos (j : Nat) : 0 < powr (j + 1) := by rw [powr_succ]; exact Nat.two_pow_pos _
theorem powr_le {j k : Nat} (h : j ≤ k) : powr j ≤ 2 ^ k := by
  unfold powr
  split
  · exact Nat.zero_le _
  · exact Nat.pow_le_pow_right (by omega) (by omega)
theorem powr_div (n j : Nat) : (n : Int).tdiv (powr (j + 1) : Nat) = ((n / 2 ^ j : Nat) : Int) := by
  rw [powr_succ, Int.tdiv_eq_ediv_of_nonneg (by omega)]
  push_cast; rfl
theorem div_bit (n j : Nat) : ((n / 2 ^ j : Nat) : Int).tmod 2 = ((n.testBit j).toNat : Nat) := by
  rw [Nat.toNat_testBit]
  generalize n / 2 ^ j = y
  rw [Int.tmod_eq_emod_of_nonneg (by omega)]
  omega

theorem bitsMS_high {n b : Nat} (h : n < 2 ^ b) : ∀ a, bitsMS n (b + a) = List.replicate a false ++ bitsMS n b
  | 0 => rfl
  | a + 1 => by
    rw [← Nat.add_assoc]
    simp only [bitsMS, List.replicate_succ, List.cons_append]
    rw [bitsMS_high h a, Nat.testBit_lt_two_pow (Nat.lt_of_lt_of_le h (Nat.pow_le_pow_right (by omega) (by omega)))]

theorem run_l0 {n : Nat} (hn : n < 1000) : ∀ (m k : Nat) (e : Env), k + m = Nat.log2 (n + 1) → eget e 0 = .int .i64 n → eget e 3 = .int .i64 k → eget e 4 = .int .i64 (powr (k + 1) : Nat) →
    Res (run T (.loop B.chaseref07_Run_l0) e st) fun q e' s => q = .exit 0 ∧ s = st ∧ eget e' 0 = .int .i64 n ∧ eget e' 3 = .int .i64 (Nat.log2 (n + 1) : Nat) ∧ eget e' 4 = .int .i64 (powr (Nat.log2 (n + 1) + 1) : Nat) := by
  intro m
  have hl : Nat.log2 (n + 1) < 10 := (Nat.log2_lt (by omega)).2 (by omega)
  induction m with
  | zero =>
    intro k e hk g0 g3 g4
    have hk' : k = Nat.log2 (n + 1) := by omega
    have h1 : ¬ (2 : Nat) ^ (k + 1) ≤ n + 1 := fun h => by
      have := (Nat.le_log2 (by omega)).2 h
      omega
    have hp : powr (k + 1) = 2 ^ k := by simp [powr]
    have h2 : ¬ ((powr (k + 1) : Nat) : Int) * 2 ≤ (n : Int) + 1 := by rw [hp]; rw [Nat.pow_succ] at h1; omega
    have h3 : powr (k + 1) ≤ 1024 := powr_le (k := 10) (by omega)
    rw [run_loop]
    simp (disch := omega) [B.chaseref07_Run_l0, go_sem, g0, g3, g4, wrap64, h2, ← hk']
  | succ m ih =>
    intro k e hk g0 g3 g4
    have h1 : (2 : Nat) ^ (k + 1) ≤ n + 1 := (Nat.le_log2 (by omega)).1 (by omega)
    have hp : powr (k + 1) = 2 ^ k := by simp [powr]
    have hp2 : powr (k + 1 + 1) = powr (k + 1) * 2 := by simp [powr, Nat.pow_succ]
    have h2 : ((powr (k + 1) : Nat) : Int) * 2 ≤ (n : Int) + 1 := by rw [hp]; rw [Nat.pow_succ] at h1; omega
    have h3 : powr (k + 1) ≤ 1024 := powr_le (k := 10) (by omega)
    rw [run_loop]
    simp (disch := omega) [B.chaseref07_Run_l0, go_sem, g0, g3, g4, wrap64, h2]
    refine ih (k + 1) _ (by omega) ?_ ?_ ?_
    · simp [go_sem]
    · simp [go_sem]
    · simp [go_sem, hp2]

theorem run_l1 {r : Nat} (hr : r < 100000) : ∀ (j : Nat) (s : St) (v : AV) (L : List Bool) (e : Env), j ≤ 20 → L.length + j < 100000 → Frm [] st s → Sl s v 3 1 L.length (ints L) → Mine [] st v → eget e 4 = .int .i64 (powr j : Nat) → eget e 5 = v → eget e 6 = .int .i64 r →
    Res (run T (.loop B.chaseref07_Run_l1) e s) fun q e' s' => q = .exit 2 ∧ Frm [] st s' ∧ Sl s' (eget e' 5) 3 1 (L.length + j) (ints (L ++ bitsMS r j)) ∧ Mine [] st (eget e' 5) := by
  intro j
  induction j with
  | zero =>
    intro s v L e hj hL hF hS hM g4 g5 g6
    have g4 : eget e 4 = .int .i64 0 := g4
    rw [run_loop]
    simp (disch := omega) [B.chaseref07_Run_l1, go_sem, g4, g5, g6, bitsMS]
    exact ⟨hF, hS, hM⟩
  | succ j ih =>
    intro s v L e hj hL hF hS hM g4 g5 g6
    have hpos := powr_pos j
    have hp := powr_le (j := j + 1) (k := 20) (by omega)
    have hp' := powr_le (j := j) (k := 20) (by omega)
    have hdiv := powr_div r j
    have hbit := div_bit r j
    have hhalf := powr_half j
    have hy : r / 2 ^ j ≤ r := Nat.div_le_self _ _
    generalize powr (j + 1) = P at *
    generalize powr j = Q' at *
    generalize r / 2 ^ j = y at *
    have hP0 : ¬ P = 0 := by omega
    have hP1 : 0 < P := hpos
    rw [run_loop]
    simp (disch := omega) [B.chaseref07_Run_l1, go_sem, g4, g5, g6, wrap64, hP0, hP1, hdiv, hbit, hhalf]
    refine Sl.push hF hM hS rfl (by omega) (by omega) fun v' s' hS' hF' hM' _ => ?_
    simp (disch := omega) [go_sem, wrap64, hhalf]
    refine (ih s' v' (L ++ [r.testBit j]) _ (by omega) (by simp; omega) hF' (by rw [ints_append, List.length_append]; exact hS') hM' ?_ ?_ ?_).mono ?_
    · simp [go_sem]
    · simp [go_sem]
    · simp [go_sem]
    rintro q e2 s2 ⟨rfl, h1, h2, h3⟩
    refine ⟨rfl, h1, ?_, h3⟩
    rw [List.append_assoc, List.length_append] at h2
    simp only [List.length_singleton] at h2
    rw [show L.length + (j + 1) = L.length + 1 + j by omega]
    exact h2

theorem reps_zero : ∀ k, reps [AV.int .i64 0] k = ints (List.replicate k false)
  | 0 => rfl
  | k + 1 => by simp only [reps, reps_zero k]; simp [ints, List.replicate_succ]

/-- The bits of a run, as the reference has them. -/
theorem refrun_makes (H : B.HasFax T) (hwf : st.Wf) {n : Nat} (hn : n < 1000) : Makes T st (.fn 35 [] []) [.int .i64 n] 3 1 (pairBits [runP n]).length (ints (pairBits [runP n])) := by
  refine makes_of H.e35 H.f35 rfl ?_
  have hl : Nat.log2 (n + 1) < 10 := (Nat.log2_lt (by omega)).2 (by omega)
  simp (disch := omega) [B.chaseref07_Run, go_sem]
  refine (run_l0 hn (Nat.log2 (n + 1)) 0 _ (by omega) ?_ ?_ ?_).mono ?_
  · simp [go_sem]
  · simp [go_sem]
  · simp [go_sem, powr]
  rintro q e s0 ⟨rfl, rfl, g0, g3, g4⟩
  have hlc : ((Nat.log2 (n + 1) : Nat) : Int) * 8 ≤ 140737488355328 ∧ ((Nat.log2 (n + 1) : Nat) : Int) ≤ 140737488355328 := by omega
  have hx := Ext.new hwf (.cells 3 false (ints (List.replicate (Nat.log2 (n + 1)) false)))
  simp (disch := omega) [go_sem, g0, g3, g4, wrap64, reps_zero, hlc, -List.reduceReplicate]
  refine (run_l1 (r := n + 1) (by omega) (Nat.log2 (n + 1) + 1) ⟨_, _⟩ (.slice s0.nx 0 (Nat.log2 (n + 1)) (.known (Nat.log2 (n + 1)))) (List.replicate (Nat.log2 (n + 1)) false) _ (by omega) (by simp; omega) (hx.fr []) ?_ ?_ ?_ ?_ ?_).mono ?_
  · rw [List.length_replicate]
    exact ⟨s0.nx, .made 3 rfl (by simp [hget]) (by simp [ints_len])⟩
  · intro m hm; simp [AV.nms] at hm; exact .inr (by omega)
  · simp [go_sem]
  · simp [go_sem]
  · simp [go_sem]
  rintro q e s ⟨rfl, h1, h2, h3⟩
  have hlt : n + 1 < 2 ^ (Nat.log2 (n + 1) + 1) := by
    have := Nat.lt_log2_self (n := n + 1)
    exact this
  have hb : pairBits [runP n] = List.replicate (Nat.log2 (n + 1)) false ++ bitsMS (n + 1) (Nat.log2 (n + 1) + 1) := by
    simp only [pairBits, runP, List.flatMap_cons, List.flatMap_nil, List.append_nil]
    rw [← bitsMS_high hlt, show 2 * Nat.log2 (n + 1) + 1 = Nat.log2 (n + 1) + 1 + Nat.log2 (n + 1) by omega]
  simp [go_sem]
  refine ⟨h1.ext0, ?_, h3⟩
  rw [hb, List.length_append, bitsMS_length]
  exact h2

theorem bits_l0 {w : List UInt8} {i : Nat} {b : UInt8} (hb : w[i]? = some b) (hlen : w.length < 100000000000) : ∀ (j : Nat) (s : St) (v : AV) (L : List Bool) (e : Env), j ≤ 8 → L.length + j < 1000000000000 → Frm [] st s → Sl s v 3 1 L.length (ints L) → Mine [] st v →
    eget e 0 = .str w → eget e 3 = v → eget e 4 = .int .i64 i → eget e 5 = .int .i64 (powr j : Nat) →
    Res (run T (.loop B.chaseref07_Bits_l0) e s) fun q e' s' => q = .exit 2 ∧ Frm [] st s' ∧ Sl s' (eget e' 3) 3 1 (L.length + j) (ints (L ++ bitsMS b.toNat j)) ∧ Mine [] st (eget e' 3) ∧ eget e' 0 = .str w ∧ eget e' 4 = .int .i64 i := by
  have hil : i < w.length := (List.getElem?_eq_some_iff.1 hb).1
  have hbb : w[i] = b := (List.getElem?_eq_some_iff.1 hb).2
  have hb8 := b.toNat_lt
  intro j
  induction j with
  | zero =>
    intro s v L e hj hL hF hS hM g0 g3 g4 g5
    have g5 : eget e 5 = .int .i64 0 := g5
    rw [run_loop]
    simp (disch := omega) [B.chaseref07_Bits_l0, go_sem, g0, g3, g4, g5, bitsMS]
    exact ⟨hF, hS, hM⟩
  | succ j ih =>
    intro s v L e hj hL hF hS hM g0 g3 g4 g5
    have hpos := powr_pos j
    have hp := powr_le (j := j + 1) (k := 8) (by omega)
    have hp' := powr_le (j := j) (k := 8) (by omega)
    have hdiv := powr_div b.toNat j
    have hbit := div_bit b.toNat j
    have hhalf := powr_half j
    have hy : b.toNat / 2 ^ j ≤ b.toNat := Nat.div_le_self _ _
    generalize powr (j + 1) = P at *
    generalize powr j = Q' at *
    simp only [bitsMS]
    generalize b.toNat.testBit j = x at *
    generalize b.toNat / 2 ^ j = y at *
    have hP0 : ¬ P = 0 := by omega
    have hP1 : 0 < P := hpos
    rw [run_loop]
    simp (disch := omega) [B.chaseref07_Bits_l0, go_sem, g0, g3, g4, g5, wrap64, hP0, hP1, hil, hbb, hdiv, hbit, hhalf]
    refine Sl.push hF hM hS rfl (by omega) (by omega) fun v' s' hS' hF' hM' _ => ?_
    simp (disch := omega) [go_sem, wrap64, hhalf]
    refine (ih s' v' (L ++ [x]) _ (by omega) (by simp; omega) hF' (by rw [ints_append, List.length_append]; exact hS') hM' ?_ ?_ ?_ ?_).mono ?_
    · simp [go_sem]
    · simp [go_sem]
    · simp [go_sem]
    · simp [go_sem]
    rintro q e2 s2 ⟨rfl, h1, h2, h3⟩
    refine ⟨rfl, h1, ?_, h3⟩
    rw [List.append_assoc, List.length_append] at h2
    simp only [List.length_singleton] at h2
    rw [show L.length + (j + 1) = L.length + 1 + j by omega]
    exact h2

theorem bits_l1 {w : List UInt8} (hlen : w.length < 100000000000) : ∀ (m i : Nat) (s : St) (v : AV) (L : List Bool) (e : Env), i + m = w.length → L.length = 8 * i → Frm [] st s → Sl s v 3 1 L.length (ints L) → Mine [] st v →
    eget e 0 = .str w → eget e 3 = v → eget e 4 = .int .i64 i →
    Res (run T (.loop B.chaseref07_Bits_l1) e s) fun q e' s' => q = .exit 0 ∧ Frm [] st s' ∧ Sl s' (eget e' 3) 3 1 (8 * w.length) (ints (L ++ strBits (w.drop i))) ∧ Mine [] st (eget e' 3) := by
  intro m
  induction m with
  | zero =>
    intro i s v L e hi hL hF hS hM g0 g3 g4
    have hil : ¬ (i : Int) < w.length := by omega
    have hd : w.drop i = [] := List.drop_eq_nil_of_le (by omega)
    rw [run_loop]
    simp (disch := omega) [B.chaseref07_Bits_l1, go_sem, g0, g3, g4, hil, hd, strBits]
    exact ⟨hF, by rw [← show L.length = 8 * w.length by omega]; exact hS, hM⟩
  | succ m ih =>
    intro i s v L e hi hL hF hS hM g0 g3 g4
    have hil : (i : Int) < w.length := by omega
    have hil' : i < w.length := by omega
    have hd : strBits (w.drop i) = bitsMS w[i].toNat 8 ++ strBits (w.drop (i + 1)) := by rw [List.drop_eq_getElem_cons hil']; rfl
    rw [hd]
    rw [run_loop]
    simp (disch := omega) [B.chaseref07_Bits_l1, go_sem, g0, g3, g4, hil]
    refine (bits_l0 (w := w) (i := i) (b := w[i]) (by simp) hlen 8 s v L _ (by omega) (by omega) hF hS hM ?_ ?_ ?_ ?_).mono ?_
    · simp [go_sem]
    · simp [go_sem]
    · simp [go_sem]
    · simp [go_sem, powr]
    rintro q e2 s2 ⟨rfl, h1, h2, h3, h4, h5⟩
    simp (disch := omega) [go_sem, wrap64, h4, h5]
    refine (ih (i + 1) s2 (eget e2 3) (L ++ bitsMS w[i].toNat 8) _ (by omega) (by simp [bitsMS_length]; omega) h1 (by rw [List.length_append, bitsMS_length]; exact h2) h3 ?_ ?_ ?_).mono ?_
    · simp [go_sem]
    · simp [go_sem]
    · simp [go_sem]
    rintro q e3 s3 ⟨rfl, k1, k2, k3⟩
    refine ⟨rfl, k1, ?_, k3⟩
    rw [List.append_assoc] at k2
    exact k2

theorem bits_makes (H : B.HasFax T) (hwf : st.Wf) {w : List UInt8} (hlen : w.length < 100000000000) : Makes T st (.fn 25 [] []) [.str w] 3 1 (8 * w.length) (ints (strBits w)) := by
  refine makes_of H.e25 H.f25 rfl ?_
  simp (disch := omega) [B.chaseref07_Bits, go_sem]
  refine (bits_l1 hlen w.length 0 st .nilslice [] _ (by omega) rfl (.refl hwf _) (.nil _ _ _) (.nil _ _) ?_ ?_ ?_).mono ?_
  · simp [go_sem]
  · simp [go_sem]
  · simp [go_sem]
  rintro q e s ⟨rfl, h1, h2, h3⟩
  simp [go_sem]
  exact ⟨h1.ext0, by simpa using h2, h3⟩

end Go.Ev

/- The reference's packing of bits. -/
namespace Go.Ev
open Go
set_option linter.unusedSimpArgs false
set_option linter.unusedVariables false

variable {T : Tab} {st : St}

def padded (L : List Bool) (i j : Nat) : List Bool := (List.range j).map fun t => L.getD (i + t) false
theorem padded_succ (L : List Bool) (i j : Nat) : padded L i (j + 1) = padded L i j ++ [L.getD (i + j) false] := by
  simp [padded, List.range_succ]
theorem padded_length (L : List Bool) (i j : Nat) : (padded L i j).length = j := by simp [padded]
theorem horner_pad (c : List Bool) : ∀ k, horner (c ++ List.replicate k false) = horner c * 2 ^ k
  | 0 => by simp
  | k + 1 => by
    rw [List.replicate_succ', ← List.append_assoc, horner_snoc, horner_pad c k, Nat.pow_succ]
    simp
    rw [Nat.mul_comm 2, Nat.mul_assoc]
theorem padded_chunk (L : List Bool) (q : Nat) : padded L (8 * q) 8 = chunk L q ++ List.replicate (8 - (chunk L q).length) false := by
  apply List.ext_getElem?
  intro k
  have hcl := chunk_length L q
  by_cases hk : k < 8
  · have h1 : (padded L (8 * q) 8)[k]? = some (L.getD (8 * q + k) false) := by simp [padded, hk]
    rw [h1]
    by_cases hk2 : k < (chunk L q).length
    · rw [List.getElem?_append_left hk2]
      simp only [chunk, List.getElem?_take, List.getElem?_drop, hk, if_true]
      rw [List.getD_eq_getElem?_getD, List.getElem?_eq_getElem (by omega)]
      rfl
    · rw [List.getElem?_append_right (by omega), List.getElem?_replicate, if_pos (by omega), List.getD_eq_getElem?_getD, List.getElem?_eq_none (by omega)]
      rfl
  · rw [List.getElem?_eq_none (by rw [padded_length]; omega), List.getElem?_eq_none (by simp; omega)]
theorem padded_octet (L : List Bool) (q : Nat) : horner (padded L (8 * q) 8) = octet (chunk L q) := by
  rw [padded_chunk, horner_pad]; rfl

theorem pack_l0 {L : List Bool} {n off i : Nat} {cp : Cap} (hr : rdCells st.h n off (L.length * 1) = some (ints L)) (hL : L.length < 1000000000000) (hi : i < 1000000000000) : ∀ (m j : Nat) (e : Env) (v : AV), j + m = 8 →
    eget e 0 = .slice n off L.length cp → eget e 3 = v → eget e 4 = .int .i64 i → eget e 5 = .int .i64 (horner (padded L i j) : Nat) → eget e 6 = .int .i64 (i + j : Nat) →
    Res (run T (.loop B.chaseref07_Pack_l0) e st) fun q e' s => q = .exit 2 ∧ s = st ∧ eget e' 0 = .slice n off L.length cp ∧ eget e' 3 = v ∧ eget e' 4 = .int .i64 i ∧ eget e' 5 = .int .i64 (horner (padded L i 8) : Nat) := by
  intro m
  induction m with
  | zero =>
    intro j e v hj g0 g3 g4 g5 g6
    have hj8 : j = 8 := by omega
    subst hj8
    rw [run_loop]
    simp (disch := omega) [B.chaseref07_Pack_l0, go_sem, g0, g3, g4, g5, g6, wrap64]
  | succ m ih =>
    intro j e v hj g0 g3 g4 g5 g6
    have hlt := horner_lt (padded L i j)
    rw [padded_length] at hlt
    have hlt2 : (2 : Nat) ^ j ≤ 2 ^ 8 := Nat.pow_le_pow_right (by omega) (by omega)
    have hs : horner (padded L i (j + 1)) = 2 * horner (padded L i j) + (L.getD (i + j) false).toNat := by rw [padded_succ, horner_snoc]
    generalize horner (padded L i j) = y at *
    have hj8 : (i : Int) + j < i + 8 := by omega
    have hx1 : (L.getD (i + j) false).toNat ≤ 1 := by cases L.getD (i + j) false <;> decide
    rw [run_loop]
    by_cases hk : i + j < L.length
    · have hg := rdCells_get hr (i := i + j) (by omega)
      rw [ints_get hk] at hg
      generalize L.getD (i + j) false = x at *
      have hk' : (i : Int) + j < L.length := by omega
      have hk0 : 0 ≤ (i : Int) + j := by omega
      have htn : ((i : Int) + j).toNat = i + j := by omega
      simp (disch := omega) [B.chaseref07_Pack_l0, go_sem, g0, g3, g4, g5, g6, wrap64, hj8, hk', hk0, htn, hg]
      refine ih (j + 1) _ v (by omega) ?_ ?_ ?_ ?_ ?_
      · simp [go_sem]
      · simp [go_sem]
      · simp [go_sem]
      · simp [go_sem, hs]; omega
      · simp [go_sem]; omega
    · have hk' : ¬ (i : Int) + j < L.length := by omega
      have hx0 : L.getD (i + j) false = false := by rw [List.getD_eq_getElem?_getD, List.getElem?_eq_none (by omega)]; rfl
      rw [hx0] at hs
      simp (disch := omega) [B.chaseref07_Pack_l0, go_sem, g0, g3, g4, g5, g6, wrap64, hj8, hk']
      refine ih (j + 1) _ v (by omega) ?_ ?_ ?_ ?_ ?_
      · simp [go_sem]
      · simp [go_sem]
      · simp [go_sem]
      · simp [go_sem, hs]; omega
      · simp [go_sem]; omega

theorem pack_l1 (hwf : st.Wf) {L : List Bool} {a : AV} (hr : Rd st.h a 1 L.length (ints L)) (hL : L.length < 100000000000) : ∀ (m q : Nat) (s : St) (v : AV) (e : Env), q + m = (L.length + 7) / 8 → Frm [] st s → Sl s v 5 1 q (octs ((List.range q).map fun k => octet (chunk L k))) → Mine [] st v →
    eget e 0 = a → eget e 3 = v → eget e 4 = .int .i64 (8 * q : Nat) →
    Res (run T (.loop B.chaseref07_Pack_l1) e s) fun x e' s' => x = .exit 0 ∧ Frm [] st s' ∧ Sl s' (eget e' 3) 5 1 ((L.length + 7) / 8) (octs (packN L)) := by
  intro m
  induction m with
  | zero =>
    intro q s v e hm hF hS hM g0 g3 g4
    have hql : ¬ (8 : Int) * q < L.length := by omega
    have hlen : PO.run (AO.ev ((0, a) :: e)) (.lenOf false (.t 0)) = some (.int .i64 L.length) := hr.lenOf (by simp [go_sem])
    have hq : q = (L.length + 7) / 8 := by omega
    rw [run_loop]
    rcases hr with ⟨h1, h2, h3⟩ | ⟨n, off, cp, h1, h2⟩
    · subst h1
      have hql : ¬ (8 : Int) * q < 0 := by omega
      simp (disch := omega) [B.chaseref07_Pack_l1, go_sem, g0, g3, g4, hql]
      exact ⟨hF, by rw [packN, ← hq]; exact hS⟩
    · subst h1
      simp (disch := omega) [B.chaseref07_Pack_l1, go_sem, g0, g3, g4, hql]
      exact ⟨hF, by rw [packN, ← hq]; exact hS⟩
  | succ m ih =>
    intro q s v e hm hF hS hM g0 g3 g4
    have hql : (8 : Int) * q < L.length := by omega
    obtain ⟨n, off, cp, ha, hrd⟩ := (hr.ext hF.ext0 hwf).slice (by omega)
    have hoct := octet_lt (c := chunk L q) (by rw [chunk_length]; omega)
    have hpad := padded_octet L q
    rw [run_loop]
    simp (disch := omega) [B.chaseref07_Pack_l1, go_sem, g0, g3, g4, ha, hql]
    refine (pack_l0 (i := 8 * q) (cp := cp) hrd (by omega) (by omega) 8 0 _ v (by omega) ?_ ?_ ?_ ?_ ?_).mono ?_
    · simp [go_sem]
    · simp [go_sem]
    · simp [go_sem]
    · simp [go_sem, padded, horner]
    · simp [go_sem]
    rintro x e' s' ⟨rfl, hs', k0, k3, k4, k5⟩
    rw [hpad] at k5
    rw [hs']
    generalize hy : octet (chunk L q) = y at *
    have hw8 : IntKind.u8.wrap (y : Int) = y := wrap_u8 (by omega) (by omega)
    simp (disch := omega) [go_sem, k0, k3, k4, k5, hw8]
    refine Sl.push hF hM hS rfl (by omega) (by omega) fun v2 s2 hS2 hF2 hM2 _ => ?_
    simp (disch := omega) [go_sem, wrap64]
    refine ih (q + 1) s2 v2 _ (by omega) hF2 ?_ hM2 ?_ ?_ ?_
    · rw [List.range_succ, List.map_append, octs, List.map_append]
      simpa [octs, hy] using hS2
    · simp [go_sem, ha]
    · simp [go_sem]
    · simp [go_sem]; omega

theorem pack_tells (H : B.HasFax T) (hwf : st.Wf) {L : List Bool} {a : AV} (hr : Rd st.h a 1 L.length (ints L)) (hL : L.length < 100000000000) : Tells T st (.fn 15 [] []) [a] (.str ((packN L).map UInt8.ofNat)) := by
  refine tells_of H.e15 H.f15 rfl ?_
  simp (disch := omega) [B.chaseref07_Pack, go_sem]
  refine (pack_l1 hwf hr hL ((L.length + 7) / 8) 0 st .nilslice _ (by omega) (.refl hwf _) (.nil _ _ _) (.nil _ _) ?_ ?_ ?_).mono ?_
  · simp [go_sem]
  · simp [go_sem]
  · simp [go_sem]
  rintro x e s ⟨rfl, h1, h2⟩
  have hb := toBytes_octs (packN L)
  rcases h2.rd with ⟨k1, k2, k3⟩ | ⟨n, off, cp, k1, k2⟩
  · have : packN L = [] := by simpa [octs] using k3
    simp (disch := omega) [go_sem, k1, this, h1.ext0]
  · rw [Nat.mul_one] at k2
    simp (disch := omega) [go_sem, k1, k2, hb, h1.ext0]

end Go.Ev

/- The reference's code of a row. -/
namespace Go.Ev
open Go
set_option linter.unusedSimpArgs false
set_option linter.unusedVariables false

variable {T : Tab} {st : St}

theorem not_toNat (c : Bool) : (1 : Int) - (c.toNat : Nat) = ((!c).toNat : Nat) := by cases c <;> rfl
theorem bne_not (a c : Bool) : (a != !c) = (a == c) := by cases a <;> cases c <;> rfl

/-- A list of bits that has been made. -/
structure IntsIn (st s : St) (v : AV) (M : List Bool) : Prop where
  frm : Frm [] st s
  sl : Sl s v 3 1 M.length (ints M)
  mine : Mine [] st v

theorem row_loop (H : B.HasFax T) (hwf : st.Wf) {row before : List Bool} {ra ba : AV} {w : Nat} (hrl : row.length = w) (hbl : before.length = w) (hw : 1 ≤ w) (hw' : w ≤ 128) (hr : Rd st.h ra 1 row.length (ints row)) (hb : Rd st.h ba 1 before.length (ints before)) :
    ∀ (k : Nat) (s : St) (v : AV) (L : List Bool) (e : Env) (a : Int) (x : Bool), ((w : Int) - a).toNat ≤ k → -1 ≤ a → a ≤ w → L.length + 40 * k < 100000000000 → IntsIn st s v L →
    eget e 0 = ra → eget e 1 = ba → eget e 5 = v → eget e 6 = .int .i64 a → eget e 7 = .int .i64 (x.toNat : Nat) →
    Res (run T (.loop B.chaseref07_Row_l0) e s) fun q e' s' => q = .exit 0 ∧ IntsIn st s' (eget e' 5) (L ++ encRow row before w k a x) := by
  obtain ⟨rn, ro, rc, hra, hrr⟩ := hr.slice (by omega)
  intro k
  induction k with
  | zero =>
    intro s v L e a x hk ha ha' hlen ⟨hF, hS, hM⟩ g0 g1 g5 g6 g7
    have haw : ¬ a < row.length := by omega
    rw [run_loop]
    simp (disch := omega) [B.chaseref07_Row_l0, go_sem, g0, g1, g5, g6, g7, hra, haw, encRow]
    exact ⟨hF, by simpa using hS, hM⟩
  | succ k ih =>
    intro s v L e a x hk ha ha' hlen ⟨hF, hS, hM⟩ g0 g1 g5 g6 g7
    by_cases haw : a < w
    · have haw' : a < row.length := by omega
      have hx01 : x.toNat ≤ 1 := by cases x <;> decide
      have hrw : (row.length : Int) = w := by omega
      have hbw : (before.length : Int) = w := by omega
      rw [run_loop]
      simp (disch := omega) [B.chaseref07_Row_l0, go_sem, g0, g1, g5, g6, g7, hra, haw']
      rw [← hra]
      have hr1 := hr.ext hF.ext0 hwf
      refine (change_tells H hF.wf hr1 (by omega) (by omega) (c := x) (a := a) (by omega) (by omega)).use fun s1 hs1 => ?_
      rw [hrw, ← encP]
      obtain ⟨j1, j2, j3, j4⟩ := encStep_ok row before x ha haw (by omega) (by omega)
      obtain ⟨b1, b2, b3, b4, b5, b6, b7, b8⟩ := enc_bounds row before x ha haw (by omega)
      have hr2 := hr1.ext hs1 hF.wf
      have t2 := change_tells (T := T) H hs1.wf hr2 (by omega) (by omega) (c := !x) (a := encP row w a x) (by omega) (by omega)
      have hq : firstZ (fun i => bit row i != !x) (max (encP row w a x + 1) 0) row.length = encQ row w a x := by
        rw [hrw, show max (encP row w a x + 1) 0 = encP row w a x + 1 by omega]
        unfold encQ
        congr 1
        funext i
        exact bne_not _ _
      rw [hq] at t2
      simp (disch := omega) [go_sem, wrap64, hra]
      rw [← hra, not_toNat]
      refine t2.use fun s2 hs2 => ?_
      have hb2 := (((hb.ext hF.ext0 hwf).ext hs1 hF.wf).ext hs2 hs1.wf)
      have t3 := edge_tells (T := T) H hs2.wf hb2 (by omega) (by omega) (c := x) (a := a) (by omega) (by omega)
      rw [hbw, ← encB] at t3
      simp (disch := omega) [go_sem, wrap64]
      refine t3.use fun s3 hs3 => ?_
      have hb3 := hb2.ext hs3 hs2.wf
      have t4 := change_tells (T := T) H hs3.wf hb3 (by omega) (by omega) (c := !x) (a := encB before w a x) (by omega) (by omega)
      have hd : firstZ (fun i => bit before i != !x) (max (encB before w a x + 1) 0) before.length = encD before w a x := by
        rw [hbw, show max (encB before w a x + 1) 0 = encB before w a x + 1 by omega]
        unfold encD
        congr 1
        funext i
        exact bne_not _ _
      rw [hd] at t4
      simp (disch := omega) [go_sem, wrap64]
      rw [not_toNat]
      refine t4.use fun s4 hs4 => ?_
      have hx4 := ((hs1.trans hs2).trans hs3).trans hs4
      have hF4 := hF.trans (hx4.fr []) (by simp)
      have hS4 := hS.ext hx4 hF.wf
      have fin : ∀ (s' : St) (v' : AV) (e' : Env), IntsIn st s' v' (L ++ pairBits (encStep row before w a x).1) →
          eget e' 0 = ra → eget e' 1 = ba → eget e' 5 = v' → eget e' 6 = .int .i64 (encStep row before w a x).2.1 → eget e' 7 = .int .i64 ((encStep row before w a x).2.2.toNat : Nat) →
          Res (run T (.loop B.chaseref07_Row_l0) e' s') fun q e' s' => q = .exit 0 ∧ IntsIn st s' (eget e' 5) (L ++ encRow row before w (k + 1) a x) := by
        intro s' v' e' f1 f4 f5 f6 f7 f8
        refine (ih s' v' _ e' _ _ (by omega) (by omega) j4 (by simp only [List.length_append]; omega) f1 f4 f5 f6 f7 f8).mono ?_
        rintro q e3 s3 ⟨h1, h3⟩
        refine ⟨h1, ?_⟩
        have : encRow row before w (k + 1) a x = pairBits (encStep row before w a x).1 ++ encRow row before w k (encStep row before w a x).2.1 (encStep row before w a x).2.2 := by
          rw [encRow, if_pos haw]
        rw [this, ← List.append_assoc]
        exact h3
      have hun : encStep row before w a x = encStep row before w a x := rfl
      conv at hun => rhs; unfold encStep
      generalize encRow row before w (k + 1) a x = ER at *
      generalize encStep row before w a x = stp at *
      generalize encB before w a x = b at *
      generalize encD before w a x = d at *
      generalize encP row w a x = p at *
      generalize encQ row w a x = q at *
      by_cases hdp : d < p
      · rw [if_pos hdp] at hun
        subst hun
        simp only at fin j1 j2 j3 j4
        simp (disch := omega) [go_sem, hdp]
        refine (word_makes H hF4.wf (by decide) (by decide)).use fun wv s5 hs5 hws hwm => ?_
        simp (disch := omega) [go_sem]
        refine (Sl.append (j := 4) (hF4.trans (hs5.fr []) (by simp)) hM (hS4.ext hs5 hF4.wf) hws.rd (ints_sc _) (by omega) (by omega) (.inl (by omega))).mono ?_
        rintro v6 s6 ⟨h1, h2, h3, h4⟩
        simp (disch := omega) [go_sem]
        refine fin s6 v6 _ ⟨h2, ?_, h3⟩ ?_ ?_ ?_ ?_ ?_
        · rw [ints_append, List.length_append]; exact h1
        · simp [go_sem]
        · simp [go_sem]
        · simp [go_sem]
        · simp [go_sem]
        · simp [go_sem]
      · rw [if_neg hdp] at hun
        by_cases hv : -3 ≤ p - b ∧ p - b ≤ 3
        · rw [if_pos hv] at hun
          subst hun
          simp only at fin j1 j2 j3 j4
          simp (disch := omega) [go_sem, hdp, hv, wrap64]
          refine (vert_makes H hF4.wf hv.1 hv.2).use fun wv s5 hs5 hws hwm => ?_
          simp (disch := omega) [go_sem]
          refine (Sl.append (hF4.trans (hs5.fr []) (by simp)) hM (hS4.ext hs5 hF4.wf) hws.rd (ints_sc _) (by omega) (by omega) (.inl ?_)).mono ?_
          · simp [pairBits, bitsMS_length, vertP]; repeat (split; simp)
            simp
          rintro v6 s6 ⟨h1, h2, h3, h4⟩
          simp (disch := omega) [go_sem, wrap64]
          rw [not_toNat]
          refine fin s6 v6 _ ⟨h2, ?_, h3⟩ ?_ ?_ ?_ ?_ ?_
          · rw [ints_append, List.length_append]; exact h1
          · simp [go_sem]
          · simp [go_sem]
          · simp [go_sem]
          · simp [go_sem]
          · simp [go_sem]
        · rw [if_neg hv] at hun
          subst hun
          simp only at fin j1 j2 j3 j4
          have hmx : (if a < 0 then 0 else a) = max a 0 := by omega
          have e1 : p - max a 0 = ((p - max a 0).toNat : Int) := by omega
          have e2 : q - p = ((q - p).toNat : Int) := by omega
          have hv2 : -3 ≤ p - b → (p - b ≤ 3) = False := fun h => by simp; omega
          have hl1 : (pairBits [(1, 3), runP (p - max a 0).toNat, runP (q - p).toNat]).length = 3 + (pairBits [runP (p - max a 0).toNat]).length + (pairBits [runP (q - p).toNat]).length := by
            simp [pairBits, bitsMS_length]; omega
          have hl2 : 0 < (pairBits [runP (p - max a 0).toNat]).length := by simp [pairBits, bitsMS_length, runP]
          have hl3 : 0 < (pairBits [runP (q - p).toNat]).length := by simp [pairBits, bitsMS_length, runP]
          have hbits : L ++ pairBits [(1, 3), runP (p - max a 0).toNat, runP (q - p).toNat] = ((L ++ wordBits [48, 48, 49]) ++ pairBits [runP (p - max a 0).toNat]) ++ pairBits [runP (q - p).toNat] := by
            rw [show wordBits [48, 48, 49] = bitsMS 1 3 from by decide]
            simp only [pairBits, List.flatMap_cons, List.flatMap_nil, List.append_nil, List.append_assoc]
          by_cases hv0 : -3 ≤ p - b <;> simp (disch := omega) [go_sem, hdp, wrap64, hv0, hv2]
          all_goals
            refine (word_makes H hF4.wf (by decide) (by decide)).use fun wv s5 hs5 hws hwm => ?_
            simp (disch := omega) [go_sem]
            refine (Sl.append (j := 3) (hF4.trans (hs5.fr []) (by simp)) hM (hS4.ext hs5 hF4.wf) hws.rd (ints_sc _) (by omega) (by omega) (.inl (by omega))).mono ?_
            rintro v6 s6 ⟨h1, h2, h3, h4⟩
            rw [← ints_append] at h1
            have t5 := refrun_makes (T := T) (n := (p - max a 0).toNat) H h2.wf (by omega)
            rw [← e1] at t5
            simp (disch := omega) [go_sem, wrap64, hmx]
            refine t5.use fun wv7 s7 hs7 hws7 hwm7 => ?_
            simp (disch := omega) [go_sem]
            refine (Sl.append (h2.trans (hs7.fr []) (by simp)) h3 (h1.ext hs7 h2.wf) hws7.rd (ints_sc _) (by omega) (by omega) (.inl hl2)).mono ?_
            rintro v8 s8 ⟨m1, m2, m3, m4⟩
            rw [← ints_append] at m1
            have t6 := refrun_makes (T := T) (n := (q - p).toNat) H m2.wf (by omega)
            rw [← e2] at t6
            simp (disch := omega) [go_sem, wrap64]
            refine t6.use fun wv9 s9 hs9 hws9 hwm9 => ?_
            simp (disch := omega) [go_sem]
            refine (Sl.append (m2.trans (hs9.fr []) (by simp)) m3 (m1.ext hs9 m2.wf) hws9.rd (ints_sc _) (by omega) (by omega) (.inl hl3)).mono ?_
            rintro v10 s10 ⟨n1, n2, n3, n4⟩
            rw [← ints_append, ← hbits] at n1
            simp (disch := omega) [go_sem, wrap64]
            refine fin s10 v10 _ ⟨n2, ?_, n3⟩ ?_ ?_ ?_ ?_ ?_
            · rw [List.length_append, hl1, show L.length + (3 + (pairBits [runP (p - max a 0).toNat]).length + (pairBits [runP (q - p).toNat]).length) = L.length + 3 + (pairBits [runP (p - max a 0).toNat]).length + (pairBits [runP (q - p).toNat]).length by omega]
              exact n1
            · simp [go_sem]
            · simp [go_sem]
            · simp [go_sem]
            · simp [go_sem]
            · simp [go_sem]
    · have haw' : ¬ a < row.length := by omega
      have hfin : encRow row before w (k + 1) a x = [] := by rw [encRow, if_neg haw]
      rw [hfin, run_loop]
      simp (disch := omega) [B.chaseref07_Row_l0, go_sem, g0, g1, g5, g6, g7, hra, haw']
      exact ⟨hF, hS, hM⟩

theorem refrow_makes (H : B.HasFax T) (hwf : st.Wf) {k : Nat} (hk : 129 ≤ k) (hk2 : k ≤ 1000) {row before : List Bool} {ra ba : AV} {w : Nat} (hrl : row.length = w) (hbl : before.length = w) (hw : 1 ≤ w) (hw' : w ≤ 128) (hr : Rd st.h ra 1 row.length (ints row)) (hb : Rd st.h ba 1 before.length (ints before)) :
    Makes T st (.fn 21 [] []) [ra, ba] 3 1 (encRow row before w k (-1) false).length (ints (encRow row before w k (-1) false)) := by
  refine makes_of H.e21 H.f21 rfl ?_
  simp (disch := omega) [B.chaseref07_Row, go_sem]
  refine (row_loop H hwf hrl hbl hw hw' hr hb k st .nilslice [] _ (-1) false (by omega) (by omega) (by omega) (by simp only [List.length_nil]; omega) ⟨.refl hwf _, .nil _ _ _, .nil _ _⟩ ?_ ?_ ?_ ?_ ?_).mono ?_
  · simp [go_sem]
  · simp [go_sem]
  · simp [go_sem]
  · simp [go_sem]
  · simp [go_sem]
  rintro q e s ⟨rfl, h1⟩
  simp [go_sem]
  exact ⟨h1.frm.ext0, by simpa using h1.sl, h1.mine⟩

end Go.Ev

/- Plain laws of the code of rows. -/
namespace Go.Ev
open Go
set_option linter.unusedSimpArgs false
set_option linter.unusedVariables false

theorem firstN_congr {p q : Int → Bool} : ∀ (n : Nat) (i : Int), (∀ j, i ≤ j → j < i + n → p j = q j) → firstN p i n = firstN q i n
  | 0, _, _ => rfl
  | n + 1, i, h => by
    simp only [firstN]
    rw [h i (by omega) (by omega), firstN_congr n (i + 1) (fun j h1 h2 => h j (by omega) (by omega))]
theorem firstZ_congr {p q : Int → Bool} {i w : Int} (hi : 0 ≤ i) (hw : 0 ≤ w) (h : ∀ j, 0 ≤ j → j < w → p j = q j) : firstZ p i w = firstZ q i w := by
  unfold firstZ
  exact firstN_congr _ _ (fun j h1 h2 => h j (by omega) (by omega))

/-- The same pixels. -/
def SameTo (w : Nat) (r r' : List Bool) : Prop := ∀ j : Int, 0 ≤ j → j < w → bit r j = bit r' j

theorem encStep_congr {r r' b b' : List Bool} {w : Nat} (hr : SameTo w r r') (hb : SameTo w b b') (a : Int) (c : Bool) : encStep r b w a c = encStep r' b' w a c := by
  have hE : ∀ j : Int, 0 ≤ j → j < w → edgeP b c j = edgeP b' c j := by
    intro j h0 h1
    unfold edgeP
    rw [hb j h0 h1]
    by_cases h : j > 0
    · rw [hb (j - 1) (by omega) (by omega)]
    · rw [decide_eq_false h, Bool.false_and, Bool.false_and]
  have h1 : encB b w a c = encB b' w a c := by
    unfold encB
    exact firstZ_congr (by omega) (by omega) hE
  have h2 : encP r w a c = encP r' w a c := by
    unfold encP
    exact firstZ_congr (by omega) (by omega) (fun j h0 h1 => by rw [hr j h0 h1])
  have hb0 : min (max (a + 1) 0) (w : Int) ≤ encB b' w a c := firstZ_ge'
  have hp0 : min (max (a + 1) 0) (w : Int) ≤ encP r' w a c := firstZ_ge'
  have h3 : encD b w a c = encD b' w a c := by
    unfold encD
    rw [h1]
    exact firstZ_congr (by omega) (by omega) (fun j h0 h1 => by rw [hb j h0 h1])
  have h4 : encQ r w a c = encQ r' w a c := by
    unfold encQ
    rw [h2]
    exact firstZ_congr (by omega) (by omega) (fun j h0 h1 => by rw [hr j h0 h1])
  unfold encStep
  rw [h1, h2, h3, h4]

theorem encRow_congr {r r' b b' : List Bool} {w : Nat} (hr : SameTo w r r') (hb : SameTo w b b') : ∀ (k : Nat) (a : Int) (c : Bool), encRow r b w k a c = encRow r' b' w k a c
  | 0, _, _ => rfl
  | k + 1, a, c => by
    simp only [encRow]
    rw [encStep_congr hr hb a c, encRow_congr hr hb k]

theorem sameTo_row (bits : List Bool) {w : Nat} (hw : w ≤ 128) : SameTo w (rowPart bits w) (bits.take w) := by
  intro j h0 h1
  unfold bit
  rw [List.getD_eq_getElem?_getD, List.getD_eq_getElem?_getD, rowPart_get (by omega), List.getElem?_take, if_pos (by omega)]
  simp [List.getD_eq_getElem?_getD]
  intro h; omega
theorem sameTo_white (w : Nat) : SameTo w white (List.replicate w false) := by
  intro j h0 h1
  unfold bit white
  rw [List.getD_eq_getElem?_getD, List.getD_eq_getElem?_getD, List.getElem?_replicate, List.getElem?_replicate]
  split <;> split <;> rfl

/-- The rows of octets. -/
def rowsK (w n : Nat) : Nat → List UInt8 → Option (List (List Bool))
  | 0, _ => some []
  | m + 1, s => if cleanFrom (strBits (s.take n)) w = true then (rowsK w n m (s.drop n)).map ((strBits (s.take n)).take w :: ·) else none

def codeRows (w : Nat) : List (List Bool) → List Bool → List Bool
  | [], _ => []
  | r :: rs, b => encRow r b w 129 (-1) false ++ codeRows w rs r

theorem encK_rows {w n : Nat} (hw : w ≤ 128) : ∀ (m : Nat) (s : List UInt8) (b b' : List Bool), SameTo w b b' → encK w n m s b = (rowsK w n m s).map (codeRows w · b')
  | 0, s, b, b', h => rfl
  | m + 1, s, b, b', h => by
    simp only [encK, rowsK]
    split
    · rw [encK_rows hw m (s.drop n) (rowPart (strBits (s.take n)) w) ((strBits (s.take n)).take w) (sameTo_row _ hw)]
      cases rowsK w n m (s.drop n) with
      | none => rfl
      | some rs =>
        simp only [Option.map_some, codeRows]
        rw [encRow_congr (sameTo_row _ hw) h]
    · rfl

theorem rowsK_ok {w n : Nat} (hwn : w ≤ 8 * n) : ∀ (m : Nat) (s : List UInt8) (rs : List (List Bool)), n * m ≤ s.length → rowsK w n m s = some rs → rs.length = m ∧ ∀ r ∈ rs, r.length = w
  | 0, s, rs, hs, h => by simp [rowsK] at h; subst h; simp
  | m + 1, s, rs, hs, h => by
    simp only [rowsK] at h
    split at h
    · cases h1 : rowsK w n m (s.drop n) with
      | none => rw [h1] at h; cases h
      | some r =>
        rw [h1] at h
        simp only [Option.map_some, Option.some.injEq] at h
        have hmul : n * (m + 1) = n * m + n := Nat.mul_succ _ _
        have := rowsK_ok hwn m _ _ (by rw [List.length_drop]; omega) h1
        subst h
        refine ⟨by simp [this.1], ?_⟩
        intro q hq
        rcases List.mem_cons.1 hq with rfl | hq
        · rw [List.length_take, strBits_length, List.length_take]; omega
        · exact this.2 q hq
    · cases h

theorem encRow_pos (r b : List Bool) {w a : Int} {c : Bool} (h : a < w) : ∀ {k : Nat}, 1 ≤ k → 0 < (encRow r b w k a c).length
  | k + 1, _ => by
    have hs : 0 < (pairBits (encStep r b w a c).1).length := by
      unfold encStep
      split
      · simp [pairBits, bitsMS_length]
      · split
        · simp [pairBits, bitsMS_length, vertP]; repeat (split; simp)
          simp
        · simp [pairBits, bitsMS_length]; omega
    rw [encRow, if_pos h, List.length_append]
    omega

end Go.Ev

/- The reference's rows and its Encode. -/
namespace Go.Ev
open Go
set_option linter.unusedSimpArgs false
set_option linter.unusedVariables false

variable {T : Tab} {st : St}

/-- Rows that have been made. -/
structure RowsMade (st s : St) (v : AV) (rs : List (List Bool)) (vs : List AV) : Prop where
  frm : Frm [] st s
  sl : Sl s v 45 1 rs.length vs
  mine : Mine [] st v
  rows : ∀ (i : Nat) (r : List Bool), rs[i]? = some r → ∃ u, vs[i]? = some u ∧ Rd s.h u 1 r.length (ints r) ∧ NL s u ∧ ∀ n ∈ u.nms, n ∉ v.nms

theorem RowsMade.nil (hwf : st.Wf) : RowsMade st st .nilslice [] [] := ⟨.refl hwf _, .nil _ _ _, .nil _ _, fun i r h => by simp at h⟩

theorem RowsMade.push {s : St} {v u : AV} {rs : List (List Bool)} {vs : List AV} {r : List Bool} {Q : AV → St → Prop} (h : RowsMade st s v rs vs) (hu : Rd s.h u 1 r.length (ints r)) (hnl : NL s u) (hun : ∀ n ∈ u.nms, n ∉ v.nms) (hsc : u.sc = true) (hl : rs.length < 1000000)
    (hq : ∀ v' s', RowsMade st s' v' (rs ++ [r]) (vs ++ [u]) → Q v' s') : CRes (aappend 45 1 24 ⟨(s.nx, .cells 45 false [u]) :: s.h, s.nx + 1⟩ v (.slice s.nx 0 1 (.known 1))) Q := by
  have hx := Ext.new h.frm.wf (.cells 45 false [u])
  have hv : ∀ n ∈ v.nms, n < s.nx := h.sl.rd.lt h.frm.wf
  refine (Sl.append (st0 := s) (S := v.nms) (j := 1) (new := [u]) (hx.fr _) (fun n hn => .inl hn) (h.sl.ext hx h.frm.wf) (.inr ⟨_, _, _, rfl, rd_all (ty := 45) (l := false) (by simp [hget]) rfl⟩) (by simp [hsc]) (by omega) (by omega) (.inl (by omega))).mono ?_
  rintro v' s' ⟨h1, h2, h3, h4⟩
  refine hq v' s' ⟨h.frm.trans h2 h.mine, by rw [List.length_append]; exact h1, ?_, ?_⟩
  · refine h3.mono (fun n hn => ?_) h.frm.nx
    rcases h.mine n hn with h | h
    · cases h
    · exact .inr h
  · have hlv : vs.length = rs.length := by have := h.sl.rd.len; omega
    have old : ∀ {r' : List Bool} {u' : AV}, Rd s.h u' 1 r'.length (ints r') → NL s u' → (∀ n ∈ u'.nms, n ∉ v.nms) → Rd s'.h u' 1 r'.length (ints r') ∧ NL s' u' ∧ ∀ n ∈ u'.nms, n ∉ v'.nms := by
      intro r' u' a a2 b
      refine ⟨a.frm h2 h.frm.wf b, a2.frm h2 h.frm.wf b, fun n hn hn' => ?_⟩
      rcases h3 n hn' with h5 | h5
      · exact b n hn h5
      · have := a.lt h.frm.wf n hn; omega
    intro i r' hr'
    by_cases hi : i < rs.length
    · rw [List.getElem?_append_left hi] at hr'
      obtain ⟨u', h5, h6, h7, h8⟩ := h.rows i r' hr'
      exact ⟨u', by rw [List.getElem?_append_left (by omega)]; exact h5, old h6 h7 h8⟩
    · have hie : i = rs.length := by
        have := (List.getElem?_eq_some_iff.1 hr').1
        simp at this; omega
      subst hie
      have hr2 : r' = r := by simpa using hr'.symm
      subst hr2
      exact ⟨u, by rw [← hlv]; simp, old hu hnl hun⟩

theorem rows_l0 {bits : List Bool} {n off : Nat} {cp : Cap} (hr : rdCells st.h n off (bits.length * 1) = some (ints bits)) (hl : bits.length < 1000000) : ∀ (m k : Nat) (e : Env) (u0 u1 u6 u7 u8 : AV), k + m = bits.length → eget e 0 = u0 → eget e 1 = u1 → eget e 6 = u6 → eget e 7 = u7 → eget e 8 = u8 →
    eget e 9 = .slice n off bits.length cp → eget e 10 = .int .i64 k →
    Res (run T (.loop B.chaseref07_Rows_l0) e st) fun q e' s => ((q = .exit 2 ∧ cleanFrom bits k = true ∧ eget e' 0 = u0 ∧ eget e' 1 = u1 ∧ eget e' 6 = u6 ∧ eget e' 7 = u7 ∧ eget e' 8 = u8 ∧ eget e' 9 = .slice n off bits.length cp) ∨
      (q = .ret ∧ cleanFrom bits k = false ∧ eget e' 4 = .nilslice ∧ eget e' 5 = .bool false)) ∧ s = st := by
  intro m
  induction m with
  | zero =>
    intro k e u0 u1 u6 u7 u8 hk g0 g1 g6 g7 g8 g9 g10
    have hkl : ¬ (k : Int) < bits.length := by omega
    have hc : cleanFrom bits k = true := by
      unfold cleanFrom
      rw [List.drop_eq_nil_of_le (by omega)]; rfl
    rw [run_loop]
    simp (disch := omega) [B.chaseref07_Rows_l0, go_sem, g0, g1, g6, g7, g8, g9, g10, hkl, hc]
  | succ m ih =>
    intro k e u0 u1 u6 u7 u8 hk g0 g1 g6 g7 g8 g9 g10
    have hkl : (k : Int) < bits.length := by omega
    have hkl' : k < bits.length := by omega
    have hg := rdCells_get hr (i := k) (by omega)
    rw [ints_get hkl'] at hg
    have hx : bits[k]? = some (bits.getD k false) := by rw [List.getD_eq_getElem?_getD, List.getElem?_eq_getElem hkl']; rfl
    have hc := cleanFrom_step hx
    rw [run_loop]
    generalize bits.getD k false = x at *
    cases x with
    | true =>
      simp (disch := omega) [B.chaseref07_Rows_l0, go_sem, g0, g1, g6, g7, g8, g9, g10, hkl, hkl', hg, hc]
    | false =>
      simp (disch := omega) [B.chaseref07_Rows_l0, go_sem, g0, g1, g6, g7, g8, g9, g10, hkl, hkl', hg, wrap64]
      rw [hc]
      refine (ih (k + 1) _ u0 u1 u6 u7 u8 (by omega) ?_ ?_ ?_ ?_ ?_ ?_ ?_).mono ?_
      · simp [go_sem]
      · simp [go_sem]
      · simp [go_sem]
      · simp [go_sem]
      · simp [go_sem]
      · simp [go_sem]
      · simp [go_sem]
      rintro q e' s ⟨h1, h2⟩
      exact ⟨by simpa using h1, h2⟩

theorem rows_l1 (H : B.HasFax T) {s0 : List UInt8} {w n : Nat} (hs0 : s0.length ≤ 65536) (hw : 1 ≤ w) (hw' : w ≤ 128) (hn : n = (w + 7) / 8) :
    ∀ (m i : Nat) (s : St) (v : AV) (rs : List (List Bool)) (vs : List AV) (e : Env), i + m * n = s0.length → RowsMade st s v rs vs → rs.length + m ≤ 65536 → eget e 0 = .str s0 → eget e 1 = .int .i64 w → eget e 6 = .int .i64 n → eget e 7 = v → eget e 8 = .int .i64 i →
    Res (run T (.loop B.chaseref07_Rows_l1) e s) fun q e' s' => Frm [] st s' ∧ ((q = .exit 0 ∧ ∃ rs' vs', rowsK w n m (s0.drop i) = some rs' ∧ RowsMade st s' (eget e' 7) (rs ++ rs') vs') ∨
      (q = .ret ∧ rowsK w n m (s0.drop i) = none ∧ eget e' 4 = .nilslice ∧ eget e' 5 = .bool false)) := by
  intro m
  induction m with
  | zero =>
    intro i s v rs vs e hi hR hlen g0 g1 g6 g7 g8
    have hil : ¬ (i : Int) < s0.length := by omega
    rw [run_loop]
    simp (disch := omega) [B.chaseref07_Rows_l1, go_sem, g0, g1, g6, g7, g8, hil, rowsK]
    exact ⟨hR.frm, vs, hR⟩
  | succ m ih =>
    intro i s v rs vs e hi hR hlen g0 g1 g6 g7 g8
    have hmn : (m + 1) * n = m * n + n := by rw [Nat.add_mul, Nat.one_mul]
    have hn1 : 1 ≤ n := by omega
    have hil : (i : Int) < s0.length := by omega
    have hlen1 : ((s0.drop i).take n).length = n := by simp; omega
    have hin : ((i : Int) + n).toNat - i = n := by omega
    rw [run_loop]
    simp (disch := omega) [B.chaseref07_Rows_l1, go_sem, g0, g1, g6, g7, g8, hil, wrap64, asubS_some, hin]
    refine (bits_makes H hR.frm.wf (w := (s0.drop i).take n) (by omega)).use fun lv s1 hs1 hl1 hm1 => ?_
    simp only [rowsK]
    have hbl := strBits_length ((s0.drop i).take n)
    generalize strBits ((s0.drop i).take n) = bits at *
    rw [hlen1] at hl1 hbl
    rw [← hbl] at hl1
    have hlnl := hl1.nl
    obtain ⟨ln, lo, lc, rfl, hlr⟩ := hl1.rd.slice (by omega)
    have hln : s.nx ≤ ln := by
      rcases hm1 ln (by simp [AV.nms]) with h | h
      · cases h
      · exact h
    simp (disch := omega) [go_sem]
    refine (rows_l0 (cp := lc) hlr (by omega) (bits.length - w) w _ (.str s0) (.int .i64 w) (.int .i64 n) v (.int .i64 i) (by omega) ?_ ?_ ?_ ?_ ?_ ?_ ?_).mono ?_
    · simp [go_sem]
    · simp [go_sem]
    · simp [go_sem]
    · simp [go_sem]
    · simp [go_sem]
    · simp [go_sem]
    · simp [go_sem]
    rintro q e2 s2 ⟨h1, hs2⟩
    have hF1 := hR.frm.trans (hs1.fr []) (by simp)
    rw [hs2]
    rcases h1 with ⟨rfl, hc, k0, k1, k6, k7, k8, k9⟩ | ⟨rfl, hc, k4, k5⟩
    · rw [hc]
      have hlo : lo = 0 := by
        obtain ⟨nn, hh⟩ := hl1
        rcases hh with ⟨a1, a2, a3⟩ | ⟨a1, a2, a3⟩ | ⟨ty', a1, a2, a3⟩ <;> simp at a1
        · exact a1.2.1
        · exact a1.2.1
      subst hlo
      have hwb : (w : Int) ≤ bits.length := by omega
      have hcap : (∃ cp, asubL 1 ln 0 bits.length lc none (some (.int .i64 w)) none = some (.slice ln 0 w cp)) := by
        obtain ⟨nn, hh⟩ := hl1
        have : lc = .full ∨ lc = .known bits.length := by
          rcases hh with ⟨a1, a2, a3⟩ | ⟨a1, a2, a3⟩ | ⟨ty', a1, a2, a3⟩ <;> simp at a1
          · exact .inl a1.2
          · exact .inr a1.2
        rcases this with rfl | rfl
        · exact ⟨.full, asubL_hi_full (by omega) hwb⟩
        · exact ⟨.known bits.length, asubL_hi_known (by omega) hwb (by omega)⟩
      obtain ⟨cp, hcp⟩ := hcap
      have htl : (bits.take w).length = w := by rw [List.length_take]; omega
      have hrow : Rd s1.h (.slice ln 0 w cp) 1 (bits.take w).length (ints (bits.take w)) := by
        refine .inr ⟨ln, 0, cp, by rw [htl], ?_⟩
        rw [htl]
        obtain ⟨o, ho⟩ := rdCells_some hlr
        have hit : ints (bits.take w) = (ints bits).take w := by simp [ints, List.map_take]
        have hil2 := ints_len bits
        unfold rdCells at hlr ⊢
        rw [ho] at hlr ⊢
        cases o with
        | cells _ _ cs | buf _ _ cs | ro cs =>
          simp only [Nat.zero_add, Nat.mul_one, List.drop_zero] at hlr ⊢
          split at hlr
          · injection hlr with hlr
            rw [if_pos (by omega), hit, ← hlr, List.take_take]
            congr 2; omega
          · cases hlr
        | _ => cases hlr
      have hR1 : RowsMade st s1 v rs vs := by
        refine ⟨hF1, hR.sl.ext hs1 hR.frm.wf, hR.mine, fun i r hr => ?_⟩
        obtain ⟨u, a1, a2, a3, a4⟩ := hR.rows i r hr
        exact ⟨u, a1, a2.ext hs1 hR.frm.wf, a3.ext hs1 hR.frm.wf, a4⟩
      have hvlt := hR.sl.rd.lt hR.frm.wf
      simp (disch := omega) [go_sem, k0, k1, k6, k7, k8, k9, hcp]
      refine hR1.push hrow hlnl ?_ rfl (by omega) fun v' s' hR' => ?_
      · intro k hk hk'
        simp [AV.nms] at hk
        subst hk
        have := hvlt _ hk'
        omega
      simp (disch := omega) [go_sem, wrap64]
      refine (ih (i + n) s' v' (rs ++ [bits.take w]) _ _ (by omega) hR' (by simp; omega) ?_ ?_ ?_ ?_ ?_).mono ?_
      · simp [go_sem]
      · simp [go_sem]
      · simp [go_sem]
      · simp [go_sem]
      · simp [go_sem]
      rintro q e3 s3 ⟨hF3, h3⟩
      refine ⟨hF3, ?_⟩
      rcases h3 with ⟨rfl, rs', vs', h4, h5⟩ | ⟨rfl, h4, h5⟩
      · refine .inl ⟨rfl, bits.take w :: rs', ⟨rs', h4, rfl⟩, vs', ?_⟩
        rw [List.append_assoc] at h5
        exact h5
      · exact .inr ⟨rfl, h4, h5⟩
    · rw [hc]
      simp (disch := omega) [go_sem, k4, k5]
      exact hF1

theorem RowsMade.drop {s : St} {v : AV} {rs : List (List Bool)} {vs : List AV} (h : RowsMade st s v rs vs) : RowsMade st ⟨dropLoc st.nx s.h, s.nx⟩ v rs vs := by
  refine ⟨h.frm.dropLoc, h.sl.dropLoc h.frm.wf, h.mine, fun i r hr => ?_⟩
  obtain ⟨u, a1, a2, a3, a4⟩ := h.rows i r hr
  exact ⟨u, a1, a2.dropLoc h.frm.wf a3, a3.dropLoc h.frm.wf, a4⟩

/-- What Rows answers. -/
theorem rows_call (H : B.HasFax T) (hwf : st.Wf) {s0 : List UInt8} {w n : Nat} (hs0 : s0.length ≤ 65536) (hw : 1 ≤ w) (hw' : w ≤ 128) (hn : n = (w + 7) / 8) :
    CRes (call T (.fn 20 [] []) [.str s0, .int .i64 w] st) fun r s' => Ext st s' ∧ ((r = .tuple [.nilslice, .bool false] ∧ (s0.length % n ≠ 0 ∨ rowsK w n (s0.length / n) s0 = none)) ∨
      (s0.length % n = 0 ∧ ∃ rs v vs, rowsK w n (s0.length / n) s0 = some rs ∧ r = .tuple [v, .bool true] ∧ RowsMade st s' v rs vs)) := by
  refine call_res H.e20 H.f20 rfl ?_
  have hdiv : ((w : Int) + 7).tdiv 8 = (n : Nat) := by rw [Int.tdiv_eq_ediv_of_nonneg (by omega)]; omega
  have hn0 : ¬ n = 0 := by omega
  have hmod : (s0.length : Int).tmod n = ((s0.length % n : Nat) : Int) := by rw [Int.tmod_eq_emod_of_nonneg (by omega)]; simp
  by_cases hd : s0.length % n = 0
  · have hd' : (s0.length : Int) % n = 0 := by exact_mod_cast hd
    have hmul : s0.length / n * n = s0.length := Nat.div_mul_cancel (Nat.dvd_of_mod_eq_zero hd)
    have hqs : s0.length / n ≤ 65536 := Nat.le_trans (Nat.div_le_self _ _) (by omega)
    simp (disch := omega) [B.chaseref07_Rows, go_sem, wrap64, hdiv, hmod, hn0, hd']
    refine (rows_l1 H hs0 hw hw' hn (s0.length / n) 0 st .nilslice [] [] _ (by omega) (.nil hwf) (by simpa using hqs) ?_ ?_ ?_ ?_ ?_).mono ?_
    · simp [go_sem]
    · simp [go_sem]
    · simp [go_sem]
    · simp [go_sem]
    · simp [go_sem]
    rintro q e s ⟨hF, h1⟩
    rw [List.drop_zero] at h1
    rcases h1 with ⟨rfl, rs, vs, h2, h3⟩ | ⟨rfl, h2, h4, h5⟩
    · simp [go_sem]
      exact ⟨hF.ext0.dropLoc, hd, rs, h2, vs, by simpa using h3.drop⟩
    · simp [go_sem, h4, h5]
      exact ⟨hF.ext0.dropLoc, Or.inr h2⟩
  · have hd' : ¬ (s0.length : Int) % n = 0 := by exact_mod_cast hd
    simp (disch := omega) [B.chaseref07_Rows, go_sem, wrap64, hdiv, hmod, hn0, hd']
    exact ⟨(Ext.refl hwf).dropLoc, .inl hd⟩

theorem codeRows_length {w : Nat} (hw : 1 ≤ w) (hw' : w ≤ 128) : ∀ (rs : List (List Bool)) (b : List Bool), (codeRows w rs b).length ≤ 5160 * rs.length
  | [], _ => by simp [codeRows]
  | r :: rs, b => by
    have h1 := codeRows_length hw hw' rs r
    have h2 := encRow_length r b (w := (w : Int)) (by omega) (by omega) 129 (-1) false (by omega)
    simp only [codeRows, List.length_append, List.length_cons]
    omega

theorem refenc_loop (H : B.HasFax T) {w : Nat} (hw : 1 ≤ w) (hw' : w ≤ 128) {st1 : St} (hwf1 : st1.Wf) (hst : Ext st st1) {rs : List (List Bool)} {rv : AV} {vs : List AV} (hrs : RowsMade st st1 rv rs vs) (hrl : ∀ r ∈ rs, r.length = w) (hl : rs.length ≤ 65536) :
    ∀ (m i : Nat) (s : St) (v u : AV) (b L : List Bool) (e : Env), i + m = rs.length → IntsIn st1 s v L → b.length = w → Rd s.h u 1 b.length (ints b) → (∀ n ∈ u.nms, n ∉ v.nms) → L.length + 5200 * m < 1000000000000 →
    eget e 6 = rv → eget e 8 = v → eget e 9 = u → eget e 10 = .int .i64 i →
    Res (run T (.loop B.chaseref07_Encode_l0) e s) fun q e' s' => q = .exit 0 ∧ IntsIn st1 s' (eget e' 8) (L ++ codeRows w (rs.drop i) b) := by
  have hlv : vs.length = rs.length := by have := hrs.sl.rd.len; omega
  intro m
  induction m with
  | zero =>
    intro i s v u b L e hi hI hbl hu hun hlen g6 g8 g9 g10
    have hil : ¬ (i : Int) < rs.length := by omega
    have hd : rs.drop i = [] := List.drop_eq_nil_of_le (by omega)
    rw [hd, run_loop]
    have hr0 := hrs.sl.rd
    rcases hr0 with ⟨h1, h2, h3⟩ | ⟨n, off, cp, h1, h2⟩
    · subst h1
      have : ¬ (i : Int) < 0 := by omega
      simp (disch := omega) [B.chaseref07_Encode_l0, go_sem, g6, g8, g9, g10, this, codeRows]
      exact hI
    · subst h1
      simp (disch := omega) [B.chaseref07_Encode_l0, go_sem, g6, g8, g9, g10, hil, codeRows]
      exact hI
  | succ m ih =>
    intro i s v u b L e hi hI hbl hu hun hlen g6 g8 g9 g10
    have hil : (i : Int) < rs.length := by omega
    have hil' : i < rs.length := by omega
    have hx1 := hI.frm.ext0
    obtain ⟨n, off, cp, hrv, hrd⟩ := (hrs.sl.rd.ext hx1 hwf1).slice (by omega)
    have hr1 : rs[i]? = some rs[i] := by simp
    obtain ⟨r, hr⟩ : ∃ r, r = rs[i] := ⟨_, rfl⟩
    rw [← hr] at hr1
    have hdrop : rs.drop i = r :: rs.drop (i + 1) := by rw [hr]; exact List.drop_eq_getElem_cons hil'
    obtain ⟨a, ha1, ha2, ha3, ha4⟩ := hrs.rows i r hr1
    have hrw : r.length = w := hrl r (by rw [hr]; simp)
    have hg := rdCells_get hrd (i := i) (by omega)
    rw [ha1] at hg
    have ha2s := ha2.ext hx1 hwf1
    have haN : ∀ n ∈ a.nms, n < st1.nx := ha2.lt hwf1
    rw [hdrop, run_loop]
    simp only [codeRows]
    have hel := encRow_length r b (w := (w : Int)) (by omega) (by omega) 129 (-1) false (by omega)
    have t1 := refrow_makes (T := T) H hI.frm.wf (k := 129) (by omega) (by omega) hrw hbl hw hw' ha2s hu
    have hep := encRow_pos r b (w := (w : Int)) (a := -1) (c := false) (by omega) (k := 129) (by omega)
    generalize encRow r b (w : Int) 129 (-1) false = ER at *
    simp (disch := omega) [B.chaseref07_Encode_l0, go_sem, g6, g8, g9, g10, hil, hil', hrv, hg]
    refine t1.use fun rw' s1 hs1 hs2 hs3 => ?_
    simp (disch := omega) [go_sem]
    have hvlt := hI.sl.rd.lt hI.frm.wf
    refine (Sl.append (st0 := s) (S := v.nms) (hs1.fr _) (fun n hn => .inl hn) (hI.sl.ext hs1 hI.frm.wf) hs2.rd (ints_sc _) (by omega) (by omega) ?_).mono ?_
    · exact .inl hep
    rintro v' s' ⟨h1, h2, h3, h4⟩
    have hI' : IntsIn st1 s' v' (L ++ ER) := ⟨hI.frm.trans h2 hI.mine, by rw [List.length_append, ints_append]; exact h1, h3.mono (fun n hn => by
      rcases hI.mine n hn with h | h
      · cases h
      · exact .inr h) hI.frm.nx⟩
    have hx' := hI'.frm.ext0
    obtain ⟨n', off', cp', hrv', hrd'⟩ := (hrs.sl.rd.ext hx' hwf1).slice (by omega)
    rw [hrv] at hrv'
    injection hrv' with q1 q2 q3 q4
    subst q1; subst q2
    have hg' := rdCells_get hrd' (i := i) (by omega)
    rw [ha1] at hg'
    simp (disch := omega) [go_sem, hil, hil', hg', wrap64]
    refine (ih (i + 1) s' v' a r (L ++ ER) _ (by omega) hI' hrw (ha2.ext hx' hwf1) ?_ (by simp only [List.length_append]; omega) ?_ ?_ ?_ ?_).mono ?_
    · intro k hk hk'
      have := haN k hk
      rcases hI'.mine k hk' with h | h
      · cases h
      · omega
    · simp [go_sem, hrv]
    · simp [go_sem]
    · simp [go_sem]
    · simp [go_sem]
    rintro q e3 s3 ⟨rfl, h5⟩
    refine ⟨rfl, ?_⟩
    rw [List.append_assoc] at h5
    exact h5

theorem wordBits_end : wordBits [48, 48, 48, 48, 48, 48, 48, 49] = bitsMS 1 8 := by decide

/-- The reference's Encode answers the same. -/
theorem refenc_tells (H : B.HasFax T) (hwf : st.Wf) (s : List UInt8) (w : Int) (hs : s.length < 4611686018427387904) :
    Tells T st (.fn 10 [] []) [.str s, .int .i64 w] (.tuple [.str (encSpec s w).1, .int .i64 (encSpec s w).2]) := by
  refine tells_of H.e10 H.f10 rfl ?_
  generalize hV : encSpec s w = V
  unfold encSpec at hV
  by_cases hl : 65536 < s.length
  · have hl' : (65536 : Int) < s.length := by omega
    rw [if_pos hl] at hV
    simp (disch := omega) [B.chaseref07_Encode, go_sem, hl', hl, Ext.refl hwf, ← hV]
  have hl' : ¬ (65536 : Int) < s.length := by omega
  rw [if_neg hl] at hV
  by_cases hw : w < 1
  · rw [if_pos (.inl hw)] at hV
    simp (disch := omega) [B.chaseref07_Encode, go_sem, hl', hl, hw, Ext.refl hwf, ← hV]
  by_cases hw2 : 128 < w
  · rw [if_pos (.inr hw2)] at hV
    simp (disch := omega) [B.chaseref07_Encode, go_sem, hl', hl, hw, hw2, Ext.refl hwf, ← hV]
  obtain ⟨w, rfl⟩ := Int.eq_ofNat_of_zero_le (show 0 ≤ w by omega)
  rw [if_neg (by omega)] at hV
  obtain ⟨n, hn⟩ : ∃ n, n = (w + 7) / 8 := ⟨_, rfl⟩
  simp only [Int.toNat_natCast] at hV
  rw [← hn] at hV
  have hw' : ¬ (w : Int) < 1 := hw
  have hn0 : ¬ n = 0 := by omega
  have hqs : s.length / n ≤ 65536 := Nat.le_trans (Nat.div_le_self _ _) (by omega)
  simp (disch := omega) [B.chaseref07_Encode, go_sem, hl', hw', hw2]
  refine (rows_call H hwf (s0 := s) (w := w) (n := n) (by omega) (by omega) (by omega) hn).mono ?_
  rintro r s1 ⟨hs1, h1⟩
  rw [encK_rows (by omega) _ _ _ _ (sameTo_white w)] at hV
  rcases h1 with ⟨rfl, h1⟩ | ⟨hd, rs, rv, vs, h1, rfl, h2⟩
  · have hV' : (([] : List UInt8), (170 : Int)) = V := by
      rw [← hV]
      rcases h1 with h1 | h1
      · rw [if_pos h1]
      · rw [h1]; split <;> rfl
    simp (disch := omega) [go_sem, hs1, ← hV']
  · rw [if_neg (fun h => h hd), h1] at hV
    simp only [Option.map_some] at hV
    obtain ⟨hrl, hrw⟩ := rowsK_ok (by omega) _ _ _ (by rw [Nat.mul_comm]; exact Nat.div_mul_le_self _ _) h1
    have hlc : ((w : Nat) : Int) * 8 ≤ 140737488355328 ∧ ((w : Nat) : Int) ≤ 140737488355328 := by omega
    have hcl := codeRows_length (by omega) (by omega) rs (List.replicate w false) (w := w)
    have hx2 := Ext.new hs1.wf (.cells 3 false (ints (List.replicate w false)))
    have hRM : RowsMade st ⟨(s1.nx, .cells 3 false (ints (List.replicate w false))) :: s1.h, s1.nx + 1⟩ rv rs vs := by
      refine ⟨h2.frm.trans (hx2.fr []) (by simp), h2.sl.ext hx2 hs1.wf, h2.mine, fun i r hr => ?_⟩
      obtain ⟨u, a1, a2, a3, a4⟩ := h2.rows i r hr
      exact ⟨u, a1, a2.ext hx2 hs1.wf, a3.ext hx2 hs1.wf, a4⟩
    simp (disch := omega) [go_sem, hlc, reps_zero, -List.reduceReplicate]
    refine (refenc_loop H (w := w) (by omega) (by omega) (st1 := ⟨_, _⟩) hx2.wf (hs1.trans hx2) hRM hrw (by omega) rs.length 0 ⟨_, _⟩ .nilslice (.slice s1.nx 0 w (.known w)) (List.replicate w false) [] _ (by omega) ⟨.refl hx2.wf _, .nil _ _ _, .nil _ _⟩ (by simp)
      (.inr ⟨s1.nx, 0, .known w, by simp, rd_all (ty := 3) (l := false) (by simp [hget]) (by simp [ints_len])⟩) (fun n h h' => by cases h') (by simp; omega) ?_ ?_ ?_ ?_).mono ?_
    · simp [go_sem]
    · simp [go_sem]
    · simp [go_sem]
    · simp [go_sem]
    rintro q e s2 ⟨rfl, hI⟩
    rw [List.drop_zero, List.nil_append] at hI
    generalize codeRows w rs (List.replicate w false) = M at *
    simp (disch := omega) [go_sem]
    refine (word_makes H hI.frm.wf (by decide) (by decide)).use fun wv s3 hs3 hws hwm => ?_
    simp (disch := omega) [go_sem]
    refine (Sl.append (j := 8) (hI.frm.trans (hs3.fr []) (by simp)) hI.mine (hI.sl.ext hs3 hI.frm.wf) hws.rd (ints_sc _) (by omega) (by omega) (.inl (by omega))).mono ?_
    rintro v6 s6 ⟨k1, k2, k3, k4⟩
    rw [wordBits_end, ← ints_append] at k1
    have hlen8 : (M ++ bitsMS 1 8).length = M.length + 8 := by rw [List.length_append, bitsMS_length]
    simp (disch := omega) [go_sem]
    refine (pack_tells H k2.wf (L := M ++ bitsMS 1 8) (by rw [hlen8]; exact k1.rd) (by omega)).use fun s7 hs7 => ?_
    have hE : Ext st s7 := ((hs1.trans hx2).trans k2.ext0).trans hs7
    have hpl : ((packN (M ++ bitsMS 1 8)).map UInt8.ofNat).length = (packN (M ++ bitsMS 1 8)).length := by simp
    by_cases hbig : 65536 < (packN (M ++ bitsMS 1 8)).length
    · have hbig' : (65536 : Int) < (packN (M ++ bitsMS 1 8)).length := by omega
      rw [if_pos hbig] at hV
      simp (disch := omega) [go_sem, hbig', hE, ← hV]
    · have hbig' : ¬ (65536 : Int) < (packN (M ++ bitsMS 1 8)).length := by omega
      rw [if_neg hbig] at hV
      simp (disch := omega) [go_sem, hbig', hE, ← hV]

end Go.Ev
