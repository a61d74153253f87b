/- The reference reads words and runs. -/
import Derived.Test.YtglndmkmfhafhaaEvFaxG
import Derived.Test.YtglndmkmfhafhaaEvFaxI
namespace Go.Ev
open Go
set_option linter.unusedSimpArgs false
set_option linter.unusedVariables false

variable {T : Tab} {st : St}

/-- Whether a word stands at a position. -/
def startsB (bits : List Bool) (i : Nat) (w : List Bool) : Bool := decide ((bits.drop i).take w.length = w)

theorem startsB_step {bits w : List Bool} {i : Nat} {b x : Bool} (hb : bits[i]? = some b) : startsB bits i (x :: w) = (b == x && startsB bits (i + 1) w) := by
  have h1 : i < bits.length := (List.getElem?_eq_some_iff.1 hb).1
  have h2 : bits[i] = b := (List.getElem?_eq_some_iff.1 hb).2
  unfold startsB
  rw [List.drop_eq_getElem_cons h1, h2, List.length_cons, List.take_succ_cons]
  by_cases e : b = x
  · subst e; simp
  · simp [e]

theorem starts_loop {bits : List Bool} {n off : Nat} {cp : Cap} (hr : rdCells st.h n off (bits.length * 1) = some (ints bits)) (hl : bits.length < 10000000) {w : List UInt8} (hw : ∀ b ∈ w, b = 48 ∨ b = 49) {at' : Nat} (ha : at' + w.length ≤ bits.length) :
    ∀ (m i : Nat) (s : St) (e : Env), i + m = w.length → s.h = st.h → Ext st s → eget e 0 = .slice n off bits.length cp → eget e 1 = .int .i64 at' → eget e 2 = .str w → eget e 7 = .int .i64 i →
    Res (run T (.loop B.chaseref07_starts_l0) e s) fun q e' s' => Ext st s' ∧ ((q = .exit 0 ∧ startsB bits (at' + i) (wordBits (w.drop i)) = true) ∨ (q = .ret ∧ eget e' 6 = .bool false ∧ startsB bits (at' + i) (wordBits (w.drop i)) = false)) := by
  intro m
  induction m with
  | zero =>
    intro i s e hi hsh hx g0 g1 g2 g7
    have hil : ¬ (i : Int) < w.length := by omega
    rw [run_loop]
    simp (disch := omega) [B.chaseref07_starts_l0, go_sem, g0, g1, g2, g7, hil]
    rw [List.drop_of_length_le (by omega)]
    simp [startsB, wordBits, hx]
  | succ m ih =>
    intro i s e hi hsh hx g0 g1 g2 g7
    have hil : (i : Int) < w.length := by omega
    have hin : i < w.length := by omega
    have hal : (at' : Int) + i < bits.length := by omega
    have hg := rdCells_get hr (i := at' + i) (by omega)
    have h0i : 0 ≤ (at' : Int) + i := by omega
    rw [ints_get (by omega)] at hg
    obtain ⟨b, hb⟩ : ∃ b, bits[at' + i]? = some b := ⟨bits[at' + i]'(by omega), by simp⟩
    have hbd : bits.getD (at' + i) false = b := by rw [List.getD_eq_getElem?_getD, hb]; rfl
    rw [hbd] at hg
    have hy : ((w[i].toNat : Int) - 48) = ((w[i] == 49 : Bool).toNat : Nat) := by
      rcases hw w[i] (List.getElem_mem _) with h | h <;> rw [h] <;> rfl
    have hdrop : wordBits (w.drop i) = (w[i] == 49) :: wordBits (w.drop (i + 1)) := by
      rw [List.drop_eq_getElem_cons hin]
      rfl
    rw [hdrop, startsB_step hb]
    generalize (w[i] == 49 : Bool) = x at *
    have hto : ((at' : Int) + i).toNat = at' + i := by omega
    have hwb : (w[i].toNat : Int) < 256 := by have := w[i].toNat_lt; omega
    have hcast : ((at' + i : Nat) : Int) = (at' : Int) + i := by push_cast; rfl
    have hx12 : Ext st ⟨st.h, s.nx + 12⟩ := by
      have := hx.trans (Ext.aside hx.wf 12)
      rw [hsh] at this
      exact this
    rw [run_loop]
    cases b <;> cases x <;> simp (disch := omega) [B.chaseref07_starts_l0, go_sem, g0, g1, g2, g7, hil, hin, hal, hg, hy, hto, h0i, hsh, wrap64]
    all_goals
      first
      | exact hx12
      | (refine ih (i + 1) _ _ (by omega) rfl hx12 ?_ ?_ ?_ ?_
         · simp [go_sem]
         · simp [go_sem]
         · simp [go_sem]
         · simp [go_sem])

theorem starts_tells (H : B.HasFax T) (hwf : st.Wf) {bits : List Bool} {v : AV} (hv : Rd st.h v 1 bits.length (ints bits)) (hl : bits.length < 10000000) {w : List UInt8} (hw : ∀ b ∈ w, b = 48 ∨ b = 49) (hw0 : 0 < w.length) (hw1 : w.length < 1000) {i : Nat} (hi : i ≤ bits.length) :
    Tells T st (.fn 26 [] []) [v, .int .i64 i, .str w] (.bool (startsB bits i (wordBits w))) := by
  refine tells_of H.e26 H.f26 rfl ?_
  by_cases h : i + w.length ≤ bits.length
  · obtain ⟨n, off, cp, rfl, hr⟩ := hv.slice (by omega)
    have hl1 : ¬ (bits.length : Int) - i < w.length := by omega
    simp (disch := omega) [B.chaseref07_starts, go_sem, wrap64, hl1]
    refine (starts_loop (cp := cp) hr hl hw h w.length 0 st _ (by omega) rfl (.refl hwf) ?_ ?_ ?_ ?_).mono ?_
    · simp [go_sem]
    · simp [go_sem]
    · simp [go_sem]
    · simp [go_sem]
    rintro q e s ⟨h1, h2⟩
    simp only [Nat.add_zero, List.drop_zero] at h2
    rcases h2 with ⟨rfl, h2⟩ | ⟨rfl, h2, h3⟩
    · simp [go_sem, h1, h2]
    · simp [go_sem, h1, h2, h3]
  · have hl1 : (bits.length : Int) - i < w.length := by omega
    have hf : startsB bits i (wordBits w) = false := by
      unfold startsB
      refine decide_eq_false fun e => ?_
      have := congrArg List.length e
      rw [List.length_take, List.length_drop, show (wordBits w).length = w.length by simp [wordBits]] at this
      omega
    rw [hf]
    rcases hv with ⟨rfl, hv1, hv2⟩ | ⟨n, off, cp, rfl, hr⟩
    · have hz : bits.length = 0 := hv1
      have hl2 : -(i : Int) < w.length := by omega
      simp (disch := omega) [B.chaseref07_starts, go_sem, wrap64, hl1, hl2, Ext.refl hwf]
    · simp (disch := omega) [B.chaseref07_starts, go_sem, wrap64, hl1, Ext.refl hwf]

/-! Runs. -/
/-- How many bits 0 stand ahead of the first bit 1. -/
def zc : List Bool → Nat
  | false :: l => zc l + 1
  | _ => 0
theorem zc_le : ∀ l : List Bool, zc l ≤ l.length
  | [] => Nat.le_refl _
  | true :: l => Nat.zero_le _
  | false :: l => by have := zc_le l; simp only [zc, List.length_cons]; omega
/-- A number of some bits, with a bound. -/
def capN (bits : List Bool) : Nat → Nat → Nat → Nat
  | 0, n, _ => n
  | k + 1, n, p => capN bits k (min (n * 2 + (bits.getD p false).toNat) 1048576) (p + 1)
theorem capN_le {bits : List Bool} : ∀ (k n p : Nat), n ≤ 1048576 → capN bits k n p ≤ 1048576
  | 0, n, p, h => h
  | k + 1, n, p, h => capN_le k _ _ (by omega)
/-- What the reference reads. -/
def rrF (bits : List Bool) (p : Nat) : Option (Nat × Nat) :=
  if bits.length < p + 2 * zc (bits.drop p) + 1 then none else some (capN bits (zc (bits.drop p) + 1) 0 (p + zc (bits.drop p)), p + 2 * zc (bits.drop p) + 1)

theorem rr_l0 {bits : List Bool} {n off : Nat} {cp : Cap} (hr : rdCells st.h n off (bits.length * 1) = some (ints bits)) (hl : bits.length < 10000000) {p : Nat} (hp : p ≤ bits.length) :
    ∀ (m k : Nat) (e : Env), p + k + m = bits.length → eget e 0 = .slice n off bits.length cp → eget e 1 = .int .i64 p → eget e 6 = .int .i64 k →
    Res (run T (.loop B.chaseref07_readRun_l0) e st) fun q e' s => q = .exit 0 ∧ s = st ∧ eget e' 0 = .slice n off bits.length cp ∧ eget e' 1 = .int .i64 p ∧ eget e' 6 = .int .i64 (k + zc (bits.drop (p + k)) : Nat) := by
  intro m
  induction m with
  | zero =>
    intro k e hi g0 g1 g6
    have hil : ¬ (p : Int) + k < bits.length := by omega
    rw [run_loop]
    simp (disch := omega) [B.chaseref07_readRun_l0, go_sem, g0, g1, g6, hil, wrap64]
    rw [List.drop_of_length_le (by omega)]
    simp [zc]
  | succ m ih =>
    intro k e hi g0 g1 g6
    have hil : (p : Int) + k < bits.length := by omega
    have hg := rdCells_get hr (i := p + k) (by omega)
    rw [ints_get (by omega)] at hg
    obtain ⟨b, hb⟩ : ∃ b, bits[p + k]? = some b := ⟨bits[p + k]'(by omega), by simp⟩
    have hbd : bits.getD (p + k) false = b := by rw [List.getD_eq_getElem?_getD, hb]; rfl
    rw [hbd] at hg
    have h0i : 0 ≤ (p : Int) + k := by omega
    have hto : ((p : Int) + k).toNat = p + k := by omega
    have hdr : bits.drop (p + k) = b :: bits.drop (p + (k + 1)) := by
      rw [List.drop_eq_getElem_cons (by omega)]
      congr 1
      exact (List.getElem?_eq_some_iff.1 hb).2
    rw [hdr, run_loop]
    cases b
    · simp (disch := omega) [B.chaseref07_readRun_l0, go_sem, g0, g1, g6, hil, hg, h0i, hto, wrap64]
      refine (ih (k + 1) _ (by omega) ?_ ?_ ?_).mono ?_
      · simp [go_sem]
      · simp [go_sem]
      · simp [go_sem]
      rintro q e s ⟨h1, h2, h3, h4, h5⟩
      refine ⟨h1, h2, h3, h4, ?_⟩
      rw [h5]
      simp only [zc]
      congr 1
      omega
    · simp (disch := omega) [B.chaseref07_readRun_l0, go_sem, g0, g1, g6, hil, hg, h0i, hto, wrap64, zc]

theorem rr_l1 {bits : List Bool} {n off : Nat} {cp : Cap} (hr : rdCells st.h n off (bits.length * 1) = some (ints bits)) (hl : bits.length < 10000000) {p k : Nat} (hp : p + 2 * k + 1 ≤ bits.length) :
    ∀ (m i x : Nat) (e : Env), i + m = k + 1 → x ≤ 1048576 → eget e 0 = .slice n off bits.length cp → eget e 1 = .int .i64 p → eget e 6 = .int .i64 k → eget e 7 = .int .i64 x → eget e 8 = .int .i64 i →
    Res (run T (.loop B.chaseref07_readRun_l1) e st) fun q e' s => q = .exit 2 ∧ s = st ∧ eget e' 1 = .int .i64 p ∧ eget e' 6 = .int .i64 k ∧ eget e' 7 = .int .i64 (capN bits m x (p + k + i) : Nat) := by
  intro m
  induction m with
  | zero =>
    intro i x e hi hx g0 g1 g6 g7 g8
    have hil : ¬ (i : Int) < k + 1 := by omega
    rw [run_loop]
    simp (disch := omega) [B.chaseref07_readRun_l1, go_sem, g0, g1, g6, g7, g8, hil, wrap64, capN]
  | succ m ih =>
    intro i x e hi hx g0 g1 g6 g7 g8
    have hil : (i : Int) < k + 1 := by omega
    have hg := rdCells_get hr (i := p + k + i) (by omega)
    rw [ints_get (by omega)] at hg
    have h0i : 0 ≤ (p : Int) + k + i := by omega
    have hlt : (p : Int) + k + i < bits.length := by omega
    have hto : ((p : Int) + k + i).toNat = p + k + i := by omega
    simp only [capN]
    generalize bits.getD (p + k + i) false = b at *
    have hb1 : b.toNat ≤ 1 := by cases b <;> decide
    have hmn : (if (1048576 : Int) < (x : Int) * 2 + (b.toNat : Nat) then (1048576 : Int) else (x : Int) * 2 + (b.toNat : Nat)) = ((min (x * 2 + b.toNat) 1048576 : Nat) : Int) := by split <;> omega
    rw [run_loop]
    simp (disch := omega) [B.chaseref07_readRun_l1, go_sem, g0, g1, g6, g7, g8, hil, hg, h0i, hlt, hto, wrap64, hmn]
    refine (ih (i + 1) (min (x * 2 + b.toNat) 1048576) _ (by omega) (by omega) ?_ ?_ ?_ ?_ ?_).mono ?_
    · simp [go_sem]
    · simp [go_sem]
    · simp [go_sem]
    · simp [go_sem]
    · simp [go_sem]
    rintro q e s ⟨h1, h2, h3, h4, h5⟩
    exact ⟨h1, h2, h3, h4, h5⟩

theorem readRun_tells (H : B.HasFax T) (hwf : st.Wf) {bits : List Bool} {v : AV} (hv : Rd st.h v 1 bits.length (ints bits)) (hl : bits.length < 10000000) {p : Nat} (hp : p ≤ bits.length) (hp0 : 0 < bits.length) :
    Tells T st (.fn 38 [] []) [v, .int .i64 p] (match rrF bits p with | none => .tuple [.int .i64 (-1), .int .i64 0] | some (n, q) => .tuple [.int .i64 ((n : Int) - 1), .int .i64 q]) := by
  refine tells_of H.e38 H.f38 rfl ?_
  obtain ⟨n, off, cp, rfl, hr⟩ := hv.slice hp0
  have hz := zc_le (bits.drop p)
  rw [List.length_drop] at hz
  simp (disch := omega) [B.chaseref07_readRun, go_sem, wrap64]
  refine (rr_l0 (cp := cp) hr hl hp (bits.length - p) 0 _ (by omega) ?_ ?_ ?_).mono ?_
  · simp [go_sem]
  · simp [go_sem]
  · simp [go_sem]
  rintro q e s ⟨rfl, rfl, g0, g1, g6⟩
  simp only [Nat.add_zero, Nat.zero_add] at g6
  unfold rrF
  generalize zc (bits.drop p) = k at *
  by_cases hk : bits.length < p + 2 * k + 1
  · have hk' : (bits.length : Int) < p + 2 * k + 1 := by omega
    rw [if_pos hk]
    simp (disch := omega) [go_sem, g0, g1, g6, hk', wrap64, Ext.refl hwf]
  · have hk' : ¬ (bits.length : Int) < p + 2 * k + 1 := by omega
    rw [if_neg hk]
    simp (disch := omega) [go_sem, g0, g1, g6, hk', wrap64]
    refine (rr_l1 (cp := cp) hr hl (p := p) (k := k) (by omega) (k + 1) 0 0 _ (by omega) (by omega) ?_ ?_ ?_ ?_ ?_).mono ?_
    · simp [go_sem, g0]
    · simp [go_sem, g1]
    · simp [go_sem, g6]
    · simp [go_sem]
    · simp [go_sem]
    rintro q e2 s2 ⟨rfl, rfl, f1, f6, f7⟩
    have hc := capN_le (bits := bits) (k + 1) 0 (p + k) (by omega)
    rw [Nat.add_zero] at f7
    generalize capN bits (k + 1) 0 (p + k) = c at *
    simp (disch := omega) [go_sem, f1, f6, f7, wrap64, Ext.refl hwf]

end Go.Ev

/- The reference fills a row. -/
namespace Go.Ev
open Go
set_option linter.unusedSimpArgs false
set_option linter.unusedVariables false

variable {T : Tab} {st : St}

theorem wrap_bit (c : Bool) : IntKind.i64.wrap (c.toNat : Int) = (c.toNat : Nat) := by cases c <;> decide

theorem rrow_l0 {u0 u1 u2 u8 u13 u16 v : AV} {p : Int} {c : Bool} : ∀ (k i : Nat) (s : St) (M : List Bool) (e : Env), (p - i).toNat = k → p ≤ M.length → M.length ≤ 128 → IntsIn st s v M →
    eget e 0 = u0 → eget e 1 = u1 → eget e 2 = u2 → eget e 8 = u8 → eget e 9 = v → eget e 11 = .int .i64 (c.toNat : Nat) → eget e 13 = u13 → eget e 16 = u16 → eget e 17 = .int .i64 p → eget e 18 = .int .i64 i →
    Res (run T (.loop B.chaseref07_readRow_l0) e s) fun q e' s' => q = .exit 4 ∧ IntsIn st s' v (fillN c k M i) ∧ eget e' 0 = u0 ∧ eget e' 1 = u1 ∧ eget e' 2 = u2 ∧ eget e' 8 = u8 ∧ eget e' 9 = v ∧ eget e' 11 = .int .i64 (c.toNat : Nat) ∧ eget e' 13 = u13 ∧ eget e' 16 = u16 ∧ eget e' 17 = .int .i64 p := by
  intro k
  induction k with
  | zero =>
    intro i s M e hk hp hM hI g0 g1 g2 g8 g9 g11 g13 g16 g17 g18
    have hil : ¬ (i : Int) < p := by omega
    rw [run_loop]
    simp (disch := omega) [B.chaseref07_readRow_l0, go_sem, g0, g1, g2, g8, g9, g11, g13, g16, g17, g18, hil, fillN]
    exact hI
  | succ k ih =>
    intro i s M e hk hp hM hI g0 g1 g2 g8 g9 g11 g13 g16 g17 g18
    have hil : (i : Int) < p := by omega
    have hiM : (i : Int) < M.length := by omega
    obtain ⟨n, cp, hv, h1, hw1, hI1, hF1⟩ := hI.store (k := i) (by omega) c
    have g9' := g9.trans hv
    rw [run_loop]
    simp (disch := omega) [B.chaseref07_readRow_l0, go_sem, g0, g1, g2, g8, g9', g11, g13, g16, g17, g18, hil, hiM, hw1, wrap64]
    refine (ih (i + 1) ⟨h1, s.nx⟩ (M.set i c) _ (by omega) (by rw [List.length_set]; exact hp) (by rw [List.length_set]; exact hM) hI1 ?_ ?_ ?_ ?_ ?_ ?_ ?_ ?_ ?_ ?_).mono ?_
    all_goals first | (simp [go_sem, hv]; done) | skip
    rintro q e2 s2 ⟨a1, a2, a3⟩
    exact ⟨a1, a2, a3⟩

theorem rrow_l2 {u0 u1 u2 u8 v : AV} {p : Int} {c : Bool} : ∀ (k i : Nat) (s : St) (M : List Bool) (e : Env), (p - i).toNat = k → p ≤ M.length → M.length ≤ 128 → IntsIn st s v M →
    eget e 0 = u0 → eget e 1 = u1 → eget e 2 = u2 → eget e 8 = u8 → eget e 9 = v → eget e 11 = .int .i64 (c.toNat : Nat) → eget e 13 = .int .i64 p → eget e 19 = .int .i64 i →
    Res (run T (.loop B.chaseref07_readRow_l2) e s) fun q e' s' => q = .exit 6 ∧ IntsIn st s' v (fillN c k M i) ∧ eget e' 0 = u0 ∧ eget e' 1 = u1 ∧ eget e' 2 = u2 ∧ eget e' 8 = u8 ∧ eget e' 9 = v ∧ eget e' 11 = .int .i64 (c.toNat : Nat) ∧ eget e' 13 = .int .i64 p := by
  intro k
  induction k with
  | zero =>
    intro i s M e hk hp hM hI g0 g1 g2 g8 g9 g11 g13 g19
    have hil : ¬ (i : Int) < p := by omega
    rw [run_loop]
    simp (disch := omega) [B.chaseref07_readRow_l2, go_sem, g0, g1, g2, g8, g9, g11, g13, g19, hil, fillN]
    exact hI
  | succ k ih =>
    intro i s M e hk hp hM hI g0 g1 g2 g8 g9 g11 g13 g19
    have hil : (i : Int) < p := by omega
    have hiM : (i : Int) < M.length := by omega
    obtain ⟨n, cp, hv, h1, hw1, hI1, hF1⟩ := hI.store (k := i) (by omega) c
    have g9' := g9.trans hv
    rw [run_loop]
    simp (disch := omega) [B.chaseref07_readRow_l2, go_sem, g0, g1, g2, g8, g9', g11, g13, g19, hil, hiM, hw1, wrap64]
    refine (ih (i + 1) ⟨h1, s.nx⟩ (M.set i c) _ (by omega) (by rw [List.length_set]; exact hp) (by rw [List.length_set]; exact hM) hI1 ?_ ?_ ?_ ?_ ?_ ?_ ?_ ?_).mono ?_
    all_goals first | (simp [go_sem, hv]; done) | skip
    rintro q e2 s2 ⟨a1, a2, a3⟩
    exact ⟨a1, a2, a3⟩

theorem rrow_l3b {u0 u2 u8 u23 v : AV} {p qq : Int} {c : Bool} : ∀ (k i : Nat) (s : St) (M : List Bool) (e : Env), (qq - i).toNat = k → p ≤ i → qq ≤ M.length → M.length ≤ 128 → IntsIn st s v M →
    eget e 0 = u0 → eget e 2 = u2 → eget e 8 = u8 → eget e 9 = v → eget e 11 = .int .i64 (c.toNat : Nat) → eget e 23 = u23 → eget e 24 = .int .i64 p → eget e 25 = .int .i64 qq → eget e 26 = .int .i64 i →
    Res (run T (.loop B.chaseref07_readRow_l3) e s) fun q e' s' => q = .exit 8 ∧ IntsIn st s' v (fillN (!c) k M i) ∧ eget e' 0 = u0 ∧ eget e' 2 = u2 ∧ eget e' 8 = u8 ∧ eget e' 9 = v ∧ eget e' 11 = .int .i64 (c.toNat : Nat) ∧ eget e' 23 = u23 ∧ eget e' 25 = .int .i64 qq := by
  intro k
  induction k with
  | zero =>
    intro i s M e hk hpi hp hM hI g0 g2 g8 g9 g11 g23 g24 g25 g26
    have hil : ¬ (i : Int) < qq := by omega
    rw [run_loop]
    simp (disch := omega) [B.chaseref07_readRow_l3, go_sem, g0, g2, g8, g9, g11, g23, g24, g25, g26, hil, fillN]
    exact hI
  | succ k ih =>
    intro i s M e hk hpi hp hM hI g0 g2 g8 g9 g11 g23 g24 g25 g26
    have hil : (i : Int) < qq := by omega
    have hiM : (i : Int) < M.length := by omega
    obtain ⟨n, cp, hv, h1, hw1, hI1, hF1⟩ := hI.store (k := i) (by omega) c
    obtain ⟨n', cp', hv', h2, hw2, hI2, hF2⟩ := hI1.store (k := i) (by rw [List.length_set]; omega) (!c)
    rw [List.length_set] at hv'
    have hnn : n' = n := by rw [hv] at hv'; injection hv' with a1; exact a1.symm
    subst hnn
    rw [List.set_set] at hI2
    have g9' := g9.trans hv
    rw [run_loop]
    simp (disch := omega) [B.chaseref07_readRow_l3, go_sem, g0, g2, g8, g9', g11, g23, g24, g25, g26, hil, hiM, hw1, hpi, not_toNat, wrap_bit, hw2, wrap64]
    refine (ih (i + 1) ⟨h2, s.nx⟩ (M.set i (!c)) _ (by omega) (by omega) (by rw [List.length_set]; exact hp) (by rw [List.length_set]; exact hM) hI2 ?_ ?_ ?_ ?_ ?_ ?_ ?_ ?_ ?_).mono ?_
    all_goals first | (simp [go_sem, hv]; done) | skip
    rintro q e2 s2 ⟨a1, a2, a3⟩
    exact ⟨a1, a2, a3⟩

theorem rrow_l3 {u0 u2 u8 u23 v : AV} {p : Nat} {qq : Int} {c : Bool} (hpq : p ≤ qq) : ∀ (k i : Nat) (s : St) (M : List Bool) (e : Env), i + k = p → qq ≤ M.length → M.length ≤ 128 → IntsIn st s v M →
    eget e 0 = u0 → eget e 2 = u2 → eget e 8 = u8 → eget e 9 = v → eget e 11 = .int .i64 (c.toNat : Nat) → eget e 23 = u23 → eget e 24 = .int .i64 p → eget e 25 = .int .i64 qq → eget e 26 = .int .i64 i →
    Res (run T (.loop B.chaseref07_readRow_l3) e s) fun q e' s' => q = .exit 8 ∧ IntsIn st s' v (fillN (!c) (qq.toNat - p) (fillN c k M i) p) ∧ eget e' 0 = u0 ∧ eget e' 2 = u2 ∧ eget e' 8 = u8 ∧ eget e' 9 = v ∧ eget e' 11 = .int .i64 (c.toNat : Nat) ∧ eget e' 23 = u23 ∧ eget e' 25 = .int .i64 qq := by
  intro k
  induction k with
  | zero =>
    intro i s M e hk hp hM hI g0 g2 g8 g9 g11 g23 g24 g25 g26
    have : i = p := by omega
    subst this
    exact rrow_l3b _ i s M e (by omega) (by omega) hp hM hI g0 g2 g8 g9 g11 g23 g24 g25 g26
  | succ k ih =>
    intro i s M e hk hp hM hI g0 g2 g8 g9 g11 g23 g24 g25 g26
    have hil : (i : Int) < qq := by omega
    have hiM : (i : Int) < M.length := by omega
    have hpi : ¬ p ≤ i := by omega
    obtain ⟨n, cp, hv, h1, hw1, hI1, hF1⟩ := hI.store (k := i) (by omega) c
    have g9' := g9.trans hv
    rw [run_loop]
    simp (disch := omega) [B.chaseref07_readRow_l3, go_sem, g0, g2, g8, g9', g11, g23, g24, g25, g26, hil, hiM, hw1, hpi, not_toNat, wrap64]
    refine (ih (i + 1) ⟨h1, s.nx⟩ (M.set i c) _ (by omega) (by rw [List.length_set]; exact hp) (by rw [List.length_set]; exact hM) hI1 ?_ ?_ ?_ ?_ ?_ ?_ ?_ ?_ ?_).mono ?_
    all_goals first | (simp [go_sem, hv]; done) | skip
    rintro q e2 s2 ⟨a1, a2, a3⟩
    exact ⟨a1, a2, a3⟩

end Go.Ev

/- The reference reads a row: the walk. -/
namespace Go.Ev
open Go
set_option linter.unusedSimpArgs false
set_option linter.unusedVariables false

variable {T : Tab} {st : St}

/-- The words of the vertical modes. -/
def vw (j : Nat) : List UInt8 := [[48, 48, 48, 48, 48, 49, 48], [48, 48, 48, 48, 49, 48], [48, 49, 48], [49], [48, 49, 49], [48, 48, 48, 48, 49, 49], [48, 48, 48, 48, 48, 49, 49]].getD j []
/-- The first word that stands at a position. -/
def findV (bits : List Bool) (p : Nat) : Nat → Nat → Option Nat
  | 0, _ => none
  | m + 1, j => if startsB bits p (wordBits (vw j)) = true then some j else findV bits p m (j + 1)

/-- What the loop over the vertical modes leaves. -/
def L1Post (st s' : St) (bits before : List Bool) (w : Nat) (lv bv rv : AV) (M : List Bool) (p : Nat) (a d : Int) (c : Bool) (V : Option Nat) (q : Ex) (e' : Env) : Prop :=
  match V with
  | none => q = .exit 2 ∧ IntsIn st s' rv M ∧ eget e' 0 = lv ∧ eget e' 1 = .int .i64 p ∧ eget e' 2 = bv ∧ eget e' 8 = .int .i64 w ∧ eget e' 9 = rv ∧ eget e' 10 = .int .i64 a ∧ eget e' 11 = .int .i64 (c.toNat : Nat) ∧ eget e' 13 = .int .i64 d ∧ eget e' 14 = .int .i64 (-1)
  | some j => match vertF before w M a c ((j : Int) - 3) with
    | none => q = .ret ∧ eget e' 6 = .nilslice ∧ eget e' 7 = .int .i64 (-1) ∧ Ext st s'
    | some (M', a', c') => q = .exit 2 ∧ IntsIn st s' rv M' ∧ eget e' 0 = lv ∧ eget e' 1 = .int .i64 p ∧ eget e' 2 = bv ∧ eget e' 8 = .int .i64 w ∧ eget e' 9 = rv ∧ eget e' 10 = .int .i64 a' ∧ eget e' 11 = .int .i64 (c'.toNat : Nat) ∧ eget e' 13 = .int .i64 d ∧
      eget e' 14 = .int .i64 (p + (vw j).length : Nat)

theorem IntsIn.ext {s s1 : St} {v : AV} {M : List Bool} (h : IntsIn st s v M) (hx : Ext s s1) : IntsIn st s1 v M := ⟨h.frm.trans (hx.fr []) (by simp), h.sl.ext hx h.frm.wf, h.mine⟩

theorem rrow_l1 (H : B.HasFax T) (hwf : st.Wf) {bits before : List Bool} {w : Nat} (hw : 1 ≤ w) (hw' : w ≤ 128) {lv bv rv : AV} {M : List Bool} (hM : M.length = w) (hl : bits.length < 10000000) (hlv : Rd st.h lv 1 bits.length (ints bits)) {p : Nat} (hp : p ≤ bits.length) {a d b : Int} (ha : -1 ≤ a) (haw : a < w) {c : Bool} (hb : b = encB before w a c) :
    ∀ (m j : Nat) (s : St) (e : Env), j + m = 7 → IntsIn st s rv M → eget e 0 = lv → eget e 1 = .int .i64 p → eget e 2 = bv → eget e 8 = .int .i64 w → eget e 9 = rv → eget e 10 = .int .i64 a → eget e 11 = .int .i64 (c.toNat : Nat) → eget e 12 = .int .i64 b → eget e 13 = .int .i64 d →
    eget e 14 = .int .i64 (-1) → eget e 15 = .int .i64 ((j : Int) - 3) →
    Res (run T (.loop B.chaseref07_readRow_l1) e s) fun q e' s' => L1Post st s' bits before w lv bv rv M p a d c (findV bits p m j) q e' := by
  obtain ⟨b1, b2, b3, b4, b5, b6, b7, b8⟩ := enc_bounds M before c ha haw (by omega)
  have hbl : b ≤ w := by rw [hb]; exact firstZ_le'
  have hbg : 0 ≤ b := by rw [hb]; exact Int.le_trans (by omega) (firstZ_ge (by omega))
  intro m
  induction m with
  | zero =>
    intro j s e hj hI g0 g1 g2 g8 g9 g10 g11 g12 g13 g14 g15
    have : j = 7 := by omega
    subst this
    rw [run_loop]
    simp (disch := omega) [B.chaseref07_readRow_l1, go_sem, g0, g1, g2, g8, g9, g10, g11, g12, g13, g14, g15, findV, L1Post]
    exact hI
  | succ m ih =>
    intro j s e hj hI g0 g1 g2 g8 g9 g10 g11 g12 g13 g14 g15
    have t1 := starts_tells (T := T) H hI.frm.wf (hlv.ext hI.frm.ext0 hwf) hl (w := vw j) (by
      have : j = 0 ∨ j = 1 ∨ j = 2 ∨ j = 3 ∨ j = 4 ∨ j = 5 ∨ j = 6 := by omega
      rcases this with rfl | rfl | rfl | rfl | rfl | rfl | rfl <;> decide) (by
      have : j = 0 ∨ j = 1 ∨ j = 2 ∨ j = 3 ∨ j = 4 ∨ j = 5 ∨ j = 6 := by omega
      rcases this with rfl | rfl | rfl | rfl | rfl | rfl | rfl <;> decide) (by
      have : j = 0 ∨ j = 1 ∨ j = 2 ∨ j = 3 ∨ j = 4 ∨ j = 5 ∨ j = 6 := by omega
      rcases this with rfl | rfl | rfl | rfl | rfl | rfl | rfl <;> decide) hp
    simp only [findV]
    have hvl : (vw j).length ≤ 7 := by
      have : j = 0 ∨ j = 1 ∨ j = 2 ∨ j = 3 ∨ j = 4 ∨ j = 5 ∨ j = 6 := by omega
      rcases this with rfl | rfl | rfl | rfl | rfl | rfl | rfl <;> decide
    have hj3 : (j : Int) - 3 ≤ 3 := by omega
    have hj7 : (j : Int) < 7 := by omega
    have hjt : ((j : Int) - 3 + 3).toNat = j := by omega
    have hmx : (if a < 0 then 0 else a) = ((max a 0).toNat : Int) := by omega
    have hidx : [AV.str [48, 48, 48, 48, 48, 49, 48], .str [48, 48, 48, 48, 49, 48], .str [48, 49, 48], .str [49], .str [48, 49, 49], .str [48, 48, 48, 48, 49, 49], .str [48, 48, 48, 48, 48, 49, 49]][j]? = some (.str (vw j)) := by
      have : j = 0 ∨ j = 1 ∨ j = 2 ∨ j = 3 ∨ j = 4 ∨ j = 5 ∨ j = 6 := by omega
      rcases this with rfl | rfl | rfl | rfl | rfl | rfl | rfl <;> rfl
    rw [run_loop]
    simp (disch := omega) [B.chaseref07_readRow_l1, go_sem, g0, g1, g2, g8, g9, g10, g11, g12, g13, g14, g15, hj3, wrap64, hjt, hj7, hidx]
    refine t1.use fun s1 hs1 => ?_
    have hI1 := hI.ext hs1
    by_cases hsb : startsB bits p (wordBits (vw j)) = true
    · rw [if_pos hsb]
      simp only [L1Post, vertF, ← hb]
      by_cases hc : b + ((j : Int) - 3) ≤ a ∨ b + ((j : Int) - 3) < 0 ∨ (w : Int) < b + ((j : Int) - 3)
      · rw [if_pos hc]
        have hE := hI1.frm.ext0
        by_cases c1 : b + ((j : Int) - 3) ≤ a
        · simp (disch := omega) [go_sem, hsb, wrap64, c1, hE]
        by_cases c2 : b + ((j : Int) - 3) < 0
        · simp (disch := omega) [go_sem, hsb, wrap64, c1, c2, hE]
        have c3 : (w : Int) < b + ((j : Int) - 3) := by omega
        simp (disch := omega) [go_sem, hsb, wrap64, c1, c2, c3, hE]
      · rw [if_neg hc]
        have c1 : ¬ b + ((j : Int) - 3) ≤ a := by omega
        have c2 : ¬ b + ((j : Int) - 3) < 0 := by omega
        have c3 : ¬ (w : Int) < b + ((j : Int) - 3) := by omega
        simp (disch := omega) [go_sem, hsb, wrap64, c1, c2, c3, hmx]
        refine (rrow_l0 (p := b + ((j : Int) - 3)) (c := c) (u0 := lv) (u1 := .int .i64 p) (u2 := bv) (u8 := .int .i64 w) (u13 := .int .i64 d) (u16 := .str (vw j)) (b + ((j : Int) - 3) - max a 0).toNat (max a 0).toNat s1 M _ (by omega) (by omega) (by omega) hI1 ?_ ?_ ?_ ?_ ?_ ?_ ?_ ?_ ?_ ?_).mono ?_
        all_goals first | (simp [go_sem]; done) | skip
        rintro q e2 s2 ⟨rfl, hI2, f0, f1, f2, f8, f9, f11, f13, f16, f17⟩
        simp (disch := omega) [go_sem, f0, f1, f2, f8, f9, f11, f13, f16, f17, wrap64, not_toNat]
        exact ⟨hI2, wrap_bit _⟩
    · rw [if_neg hsb]
      simp (disch := omega) [go_sem, hsb, wrap64]
      refine ih (j + 1) s1 _ (by omega) hI1 ?_ ?_ ?_ ?_ ?_ ?_ ?_ ?_ ?_ ?_ ?_
      all_goals simp [go_sem, g0, g1, g2, g8, g9, g10, g11, g12, g13, g14, g15]
      omega

/-- What a step of the reference makes of the bits. -/
def refStep (bits before : List Bool) (w : Int) (row : List Bool) (a : Int) (c : Bool) (p : Nat) : Option (List Bool × Int × Bool × Nat) :=
  match findV bits p 7 0 with
  | some j => match vertF before w row a c ((j : Int) - 3) with
    | none => none
    | some (r, a', c') => some (r, a', c', p + (vw j).length)
  | none =>
    if startsB bits p [false, false, false, true] = true ∧ encD before w a c < w then some (fillL row c (max a 0) (encD before w a c), encD before w a c, c, p + 4)
    else if startsB bits p [false, false, true] = false then none
    else match rrF bits (p + 3) with
      | none => none
      | some (n, q1) => match rrF bits q1 with
        | none => none
        | some (m, q2) =>
          if max a 0 + ((n : Int) - 1) ≤ a ∨ max a 0 + ((n : Int) - 1) + ((m : Int) - 1) ≤ a ∨ w < max a 0 + ((n : Int) - 1) + ((m : Int) - 1) then none
          else some (fillL (fillL row c (max a 0) (max a 0 + ((n : Int) - 1))) (!c) (max a 0 + ((n : Int) - 1)) (max a 0 + ((n : Int) - 1) + ((m : Int) - 1)), max a 0 + ((n : Int) - 1) + ((m : Int) - 1), c, q2)

def refRow (bits before : List Bool) (w : Int) : Nat → List Bool → Int → Bool → Nat → Option (List Bool × Nat)
  | 0, _, _, _, _ => none
  | k + 1, row, a, c, p => if a < w then (match refStep bits before w row a c p with
    | none => none
    | some (r, a', c', p') => refRow bits before w k r a' c' p') else some (row, p)

theorem zc_stop : ∀ l : List Bool, zc l < l.length → l.getD (zc l) false = true
  | [], h => by simp [zc] at h
  | true :: l, _ => rfl
  | false :: l, h => by
    have := zc_stop l (by simp only [zc, List.length_cons] at h; omega)
    simpa [zc] using this
theorem capN_ge {bits : List Bool} : ∀ (k n p : Nat), 1 ≤ n → 1 ≤ capN bits k n p
  | 0, n, p, h => h
  | k + 1, n, p, h => capN_ge k _ _ (by omega)
theorem rrF_some {bits : List Bool} {p n q : Nat} (h : rrF bits p = some (n, q)) : 1 ≤ n ∧ n ≤ 1048576 ∧ q ≤ bits.length ∧ p < q := by
  unfold rrF at h
  split at h
  · cases h
  · rename_i h1
    simp only [Option.some.injEq, Prod.mk.injEq] at h
    obtain ⟨rfl, rfl⟩ := h
    have h2 := zc_stop (bits.drop p) (by rw [List.length_drop]; omega)
    refine ⟨?_, capN_le _ _ _ (by omega), by omega, by omega⟩
    rw [capN]
    refine capN_ge _ _ _ ?_
    have h3 : bits.getD (p + zc (bits.drop p)) false = true := by
      rw [List.getD_eq_getElem?_getD, List.getElem?_drop] at h2
      rw [List.getD_eq_getElem?_getD]
      exact h2
    rw [h3]
    decide

theorem vertF_more {before : List Bool} {w : Int} {row : List Bool} {a : Int} {x : Bool} {sh : Int} {row' : List Bool} {a' : Int} {x' : Bool} (h : vertF before w row a x sh = some (row', a', x')) : a < a' ∧ a' ≤ w ∧ row'.length = row.length := by
  unfold vertF at h
  split at h
  · cases h
  · simp only [Option.some.injEq, Prod.mk.injEq] at h
    obtain ⟨rfl, rfl, rfl⟩ := h
    exact ⟨by omega, by omega, fillL_length _ _ _ _⟩

theorem startsB_le {bits w : List Bool} {p : Nat} (h : startsB bits p w = true) (hp : p ≤ bits.length) : p + w.length ≤ bits.length := by
  have := congrArg List.length (of_decide_eq_true h)
  rw [List.length_take, List.length_drop] at this
  omega
theorem findV_some {bits : List Bool} {p : Nat} : ∀ (m j j' : Nat), findV bits p m j = some j' → j + m ≤ 7 → startsB bits p (wordBits (vw j')) = true ∧ j' < 7
  | 0, j, j', h, _ => by cases h
  | m + 1, j, j', h, hj => by
    simp only [findV] at h
    split at h
    · rename_i h1
      simp only [Option.some.injEq] at h
      subst h
      exact ⟨h1, by omega⟩
    · exact findV_some m (j + 1) j' h (by omega)

/-- What the loop over a row leaves. -/
def L4Post (st s' : St) (rv : AV) (R : Option (List Bool × Nat)) (q : Ex) (e' : Env) : Prop :=
  match R with
  | none => q = .ret ∧ eget e' 6 = .nilslice ∧ eget e' 7 = .int .i64 (-1) ∧ Ext st s'
  | some (M', p') => q = .exit 0 ∧ IntsIn st s' rv M' ∧ eget e' 9 = rv ∧ eget e' 1 = .int .i64 p'

theorem rrow_l4 (H : B.HasFax T) (hwf : st.Wf) {bits before : List Bool} {w : Nat} (hw : 1 ≤ w) (hw' : w ≤ 128) {lv bv rv : AV} (hbl : before.length = w) (hl : bits.length < 10000000) (hlv : Rd st.h lv 1 bits.length (ints bits)) (hbv : Rd st.h bv 1 before.length (ints before)) :
    ∀ (k : Nat) (a : Int) (c : Bool) (p : Nat) (M : List Bool) (s : St) (e : Env), ((w : Int) - a).toNat < k → -1 ≤ a → a ≤ w → p ≤ bits.length → M.length = w → IntsIn st s rv M →
    eget e 0 = lv → eget e 1 = .int .i64 p → eget e 2 = bv → eget e 8 = .int .i64 w → eget e 9 = rv → eget e 10 = .int .i64 a → eget e 11 = .int .i64 (c.toNat : Nat) →
    Res (run T (.loop B.chaseref07_readRow_l4) e s) fun q e' s' => L4Post st s' rv (refRow bits before w k M a c p) q e' := by
  intro k
  induction k with
  | zero => intro a c p M s e hk; omega
  | succ k ih =>
    intro a c p M s e hk ha haw hp hM hI g0 g1 g2 g8 g9 g10 g11
    simp only [refRow]
    rw [run_loop]
    by_cases haw' : a < w
    · have hc01 : c.toNat ≤ 1 := by cases c <;> decide
      have hbw : (before.length : Int) = w := by omega
      obtain ⟨b1, b2, b3, b4, b5, b6, b7, b8⟩ := enc_more M before c ha haw' (by omega)
      rw [if_pos haw']
      have hb1 := hbv.ext hI.frm.ext0 hwf
      have t1 := edge_tells (T := T) H hI.frm.wf hb1 (by omega) (by omega) (c := c) (a := a) (by omega) (by omega)
      rw [hbw, ← encB] at t1
      simp (disch := omega) [B.chaseref07_readRow_l4, go_sem, g0, g1, g2, g8, g9, g10, g11, haw']
      refine t1.use fun s1 hs1 => ?_
      have hI1 := hI.ext hs1
      have hb2 := hb1.ext hs1 hI.frm.wf
      have t2 := change_tells (T := T) H hs1.wf hb2 (by omega) (by omega) (c := !c) (a := encB before w a c) (by omega) (by omega)
      have hd : firstZ (fun i => bit before i != !c) (max (encB before w a c + 1) 0) before.length = encD before w a c := by
        rw [hbw, show max (encB before w a c + 1) 0 = encB before w a c + 1 by omega]
        unfold encD
        congr 1
        funext i
        exact bne_not _ _
      rw [hd] at t2
      simp (disch := omega) [go_sem, wrap64]
      rw [not_toNat]
      refine t2.use fun s2 hs2 => ?_
      have hI2 := hI1.ext hs2
      simp (disch := omega) [go_sem, wrap64]
      refine (rrow_l1 H hwf (before := before) hw hw' (lv := lv) (bv := bv) hM hl hlv hp (b := encB before w a c) (d := encD before w a c) ha haw' rfl 7 0 s2 _ (by omega) hI2 ?_ ?_ ?_ ?_ ?_ ?_ ?_ ?_ ?_ ?_ ?_).mono ?_
      all_goals first | (simp [go_sem]; done) | skip
      rintro q e2 s3 h3
      unfold refStep
      cases hV : findV bits p 7 0 with
      | some j =>
        rw [hV] at h3
        simp only [L1Post] at h3 ⊢
        have hVs := findV_some 7 0 j hV (by omega)
        have hle := startsB_le hVs.1 hp
        have hwl : (wordBits (vw j)).length = (vw j).length := by simp [wordBits]
        cases hvf : vertF before w M a c ((j : Int) - 3) with
        | none =>
          rw [hvf] at h3
          obtain ⟨rfl, f6, f7, hE⟩ := h3
          simp (disch := omega) [go_sem, f6, f7, L4Post, hE]
        | some t =>
          obtain ⟨M', a', c'⟩ := t
          rw [hvf] at h3
          obtain ⟨v1, v2, v3⟩ := vertF_more hvf
          obtain ⟨rfl, hI3, f0, f1, f2, f8, f9, f10, f11, f13, f14⟩ := h3
          simp (disch := omega) [go_sem, f0, f1, f2, f8, f9, f10, f11, f13, f14]
          refine ih a' c' (p + (vw j).length) M' s3 _ (by omega) (by omega) v2 (by omega) (by omega) hI3 ?_ ?_ ?_ ?_ ?_ ?_ ?_
          all_goals simp [go_sem, f0, f1, f2, f8, f9, f10, f11, f13, f14]
      | none =>
        rw [hV] at h3
        simp only [L1Post] at h3 ⊢
        obtain ⟨rfl, hI3, f0, f1, f2, f8, f9, f10, f11, f13, f14⟩ := h3
        have hl3 := hlv.ext hI3.frm.ext0 hwf
        have t4 := starts_tells (T := T) H hI3.frm.wf hl3 hl (w := [48, 48, 48, 49]) (by decide) (by decide) (by decide) hp
        rw [show wordBits [48, 48, 48, 49] = [false, false, false, true] from by decide] at t4
        simp (disch := omega) [go_sem, f0, f1, f2, f8, f9, f10, f11, f13, f14]
        refine t4.use fun s4 hs4 => ?_
        have hI4 := hI3.ext hs4
        have hl4 := hl3.ext hs4 hI3.frm.wf
        have hmx : (if a < 0 then 0 else a) = ((max a 0).toNat : Int) := by omega
        by_cases hp1 : startsB bits p [false, false, false, true] = true ∧ encD before w a c < w
        · rw [if_pos hp1]
          simp only
          have hle := startsB_le hp1.1 hp
          simp only [List.length_cons, List.length_nil] at hle
          simp (disch := omega) [go_sem, hp1.1, hp1.2, hmx]
          refine (rrow_l2 (p := encD before w a c) (c := c) (u0 := lv) (u1 := .int .i64 p) (u2 := bv) (u8 := .int .i64 w) (encD before w a c - max a 0).toNat (max a 0).toNat s4 M _ (by omega) (by omega) (by omega) hI4 ?_ ?_ ?_ ?_ ?_ ?_ ?_ ?_).mono ?_
          all_goals first | (simp [go_sem]; done) | skip
          rintro q e5 s5 ⟨rfl, hI5, k0, k1, k2, k8, k9, k11, k13⟩
          simp (disch := omega) [go_sem, k0, k1, k2, k8, k9, k11, k13, wrap64]
          refine ih (encD before w a c) c (p + 4) _ s5 _ (by omega) (by omega) (by omega) (by omega) ?_ hI5 ?_ ?_ ?_ ?_ ?_ ?_ ?_
          · rw [fillL_length]; exact hM
          all_goals simp [go_sem, k0, k1, k2, k8, k9, k11, k13]
        · rw [if_neg hp1]
          have hdw : startsB bits p [false, false, false, true] = true → ¬ encD before w a c < w := fun h1 h2 => hp1 ⟨h1, h2⟩
          have t5 := starts_tells (T := T) H hI4.frm.wf hl4 hl (w := [48, 48, 49]) (by decide) (by decide) (by decide) hp
          rw [show wordBits [48, 48, 49] = [false, false, true] from by decide] at t5
          have hall : ∀ s5, Ext s4 s5 → IntsIn st s5 rv M ∧ Rd s5.h lv 1 bits.length (ints bits) := fun s5 h => ⟨hI4.ext h, hl4.ext h hI4.frm.wf⟩
          cases hp2 : startsB bits p [false, false, false, true]
          · simp (disch := omega) [go_sem, hp2]
            refine t5.use fun s5 hs5 => ?_
            have hI5 := hI4.ext hs5
            have hl5 := hl4.ext hs5 hI4.frm.wf
            cases hp3 : startsB bits p [false, false, true]
            · have hE5 := hI5.frm.ext0
              simp (disch := omega) [go_sem, hp3, L4Post, hE5]
            have hle := startsB_le hp3 hp
            simp only [List.length_cons, List.length_nil] at hle
            have t6 := readRun_tells (T := T) H hs5.wf hl5 hl (p := p + 3) (by omega) (by omega)
            rw [Int.natCast_add] at t6
            simp only [Bool.true_eq_false, if_false]
            simp (disch := omega) [go_sem, hp3, wrap64]
            refine t6.use fun s6 hs6 => ?_
            have hI6 := hI5.ext hs6
            have hl6 := hl5.ext hs6 hs5.wf
            cases hr1 : rrF bits (p + 3) with
            | none =>
              have hE6 := hI6.frm.ext0
              simp (disch := omega) [go_sem, L4Post, hE6]
            | some t =>
              obtain ⟨n, q1⟩ := t
              obtain ⟨n1, n2, n3, n4⟩ := rrF_some hr1
              have t7 := readRun_tells (T := T) H hs6.wf hl6 hl (p := q1) (by omega) (by omega)
              simp only
              have hn0 : ¬ (n : Int) - 1 < 0 := by omega
              simp (disch := omega) [go_sem, hn0]
              refine t7.use fun s7 hs7 => ?_
              have hI7 := hI6.ext hs7
              have hE7 := hI7.frm.ext0
              cases hr2 : rrF bits q1 with
              | none => simp (disch := omega) [go_sem, L4Post, hmx, wrap64, hE7]
              | some t2 =>
                obtain ⟨m, q2⟩ := t2
                obtain ⟨m1, m2, m3, m4⟩ := rrF_some hr2
                have hm0 : ¬ (m : Int) - 1 < 0 := by omega
                simp only
                obtain ⟨P, hP⟩ : ∃ P : Int, P = max a 0 + ((n : Int) - 1) := ⟨_, rfl⟩
                obtain ⟨Q, hQ⟩ : ∃ Q : Int, Q = P + ((m : Int) - 1) := ⟨_, rfl⟩
                have hP' : ((max a 0).toNat : Int) + ((n : Int) - 1) = P := by omega
                rw [← hP, ← hQ]
                by_cases hc : P ≤ a ∨ Q ≤ a ∨ (w : Int) < Q
                · rw [if_pos hc]
                  by_cases c1 : P ≤ a
                  · simp (disch := omega) [go_sem, L4Post, hmx, wrap64, hE7, hm0, hP', ← hP, ← hQ, c1]
                  by_cases c2 : Q ≤ a
                  · simp (disch := omega) [go_sem, L4Post, hmx, wrap64, hE7, hm0, hP', ← hP, ← hQ, c1, c2]
                  have c3 : (w : Int) < Q := by omega
                  simp (disch := omega) [go_sem, L4Post, hmx, wrap64, hE7, hm0, hP', ← hP, ← hQ, c1, c2, c3]
                · rw [if_neg hc]
                  have c1 : ¬ P ≤ a := by omega
                  have c2 : ¬ Q ≤ a := by omega
                  have c3 : ¬ (w : Int) < Q := by omega
                  simp (disch := omega) [go_sem, hmx, wrap64, hm0, hP', ← hP, ← hQ, c1, c2, c3]
                  obtain ⟨P, rfl⟩ := Int.eq_ofNat_of_zero_le (show 0 ≤ P by omega)
                  have hfl : fillL (fillL M c (max a 0) P) (!c) P Q = fillN (!c) (Q.toNat - P) (fillN c ((P : Int) - max a 0).toNat M (max a 0).toNat) P := by
                    unfold fillL
                    rw [Int.toNat_natCast, show (Q - (P : Int)).toNat = Q.toNat - P by omega]
                  refine (rrow_l3 (p := P) (qq := Q) (c := c) (u0 := lv) (u2 := bv) (u8 := .int .i64 w) (u23 := .int .i64 q2) (by omega) ((P : Int) - max a 0).toNat (max a 0).toNat s7 M _ (by omega) (by omega) (by omega) hI7 ?_ ?_ ?_ ?_ ?_ ?_ ?_ ?_ ?_).mono ?_
                  all_goals first | (simp [go_sem]; done) | skip
                  rintro q e8 s8 ⟨rfl, hI8, k0, k2, k8, k9, k11, k23, k25⟩
                  rw [← hfl] at hI8
                  simp (disch := omega) [go_sem, k0, k2, k8, k9, k11, k23, k25]
                  refine ih Q c q2 _ s8 _ (by omega) (by omega) (by omega) (by omega) ?_ hI8 ?_ ?_ ?_ ?_ ?_ ?_ ?_
                  · rw [fillL_length, fillL_length]; exact hM
                  all_goals simp [go_sem, k0, k2, k8, k9, k11, k23, k25]
          · have hdw := hdw hp2
            simp (disch := omega) [go_sem, hp2, hdw]
            refine t5.use fun s5 hs5 => ?_
            have hI5 := hI4.ext hs5
            have hl5 := hl4.ext hs5 hI4.frm.wf
            cases hp3 : startsB bits p [false, false, true]
            · have hE5 := hI5.frm.ext0
              simp (disch := omega) [go_sem, hp3, L4Post, hE5]
            have hle := startsB_le hp3 hp
            simp only [List.length_cons, List.length_nil] at hle
            have t6 := readRun_tells (T := T) H hs5.wf hl5 hl (p := p + 3) (by omega) (by omega)
            rw [Int.natCast_add] at t6
            simp only [Bool.true_eq_false, if_false]
            simp (disch := omega) [go_sem, hp3, wrap64]
            refine t6.use fun s6 hs6 => ?_
            have hI6 := hI5.ext hs6
            have hl6 := hl5.ext hs6 hs5.wf
            cases hr1 : rrF bits (p + 3) with
            | none =>
              have hE6 := hI6.frm.ext0
              simp (disch := omega) [go_sem, L4Post, hE6]
            | some t =>
              obtain ⟨n, q1⟩ := t
              obtain ⟨n1, n2, n3, n4⟩ := rrF_some hr1
              have t7 := readRun_tells (T := T) H hs6.wf hl6 hl (p := q1) (by omega) (by omega)
              simp only
              have hn0 : ¬ (n : Int) - 1 < 0 := by omega
              simp (disch := omega) [go_sem, hn0]
              refine t7.use fun s7 hs7 => ?_
              have hI7 := hI6.ext hs7
              have hE7 := hI7.frm.ext0
              cases hr2 : rrF bits q1 with
              | none => simp (disch := omega) [go_sem, L4Post, hmx, wrap64, hE7]
              | some t2 =>
                obtain ⟨m, q2⟩ := t2
                obtain ⟨m1, m2, m3, m4⟩ := rrF_some hr2
                have hm0 : ¬ (m : Int) - 1 < 0 := by omega
                simp only
                obtain ⟨P, hP⟩ : ∃ P : Int, P = max a 0 + ((n : Int) - 1) := ⟨_, rfl⟩
                obtain ⟨Q, hQ⟩ : ∃ Q : Int, Q = P + ((m : Int) - 1) := ⟨_, rfl⟩
                have hP' : ((max a 0).toNat : Int) + ((n : Int) - 1) = P := by omega
                rw [← hP, ← hQ]
                by_cases hc : P ≤ a ∨ Q ≤ a ∨ (w : Int) < Q
                · rw [if_pos hc]
                  by_cases c1 : P ≤ a
                  · simp (disch := omega) [go_sem, L4Post, hmx, wrap64, hE7, hm0, hP', ← hP, ← hQ, c1]
                  by_cases c2 : Q ≤ a
                  · simp (disch := omega) [go_sem, L4Post, hmx, wrap64, hE7, hm0, hP', ← hP, ← hQ, c1, c2]
                  have c3 : (w : Int) < Q := by omega
                  simp (disch := omega) [go_sem, L4Post, hmx, wrap64, hE7, hm0, hP', ← hP, ← hQ, c1, c2, c3]
                · rw [if_neg hc]
                  have c1 : ¬ P ≤ a := by omega
                  have c2 : ¬ Q ≤ a := by omega
                  have c3 : ¬ (w : Int) < Q := by omega
                  simp (disch := omega) [go_sem, hmx, wrap64, hm0, hP', ← hP, ← hQ, c1, c2, c3]
                  obtain ⟨P, rfl⟩ := Int.eq_ofNat_of_zero_le (show 0 ≤ P by omega)
                  have hfl : fillL (fillL M c (max a 0) P) (!c) P Q = fillN (!c) (Q.toNat - P) (fillN c ((P : Int) - max a 0).toNat M (max a 0).toNat) P := by
                    unfold fillL
                    rw [Int.toNat_natCast, show (Q - (P : Int)).toNat = Q.toNat - P by omega]
                  refine (rrow_l3 (p := P) (qq := Q) (c := c) (u0 := lv) (u2 := bv) (u8 := .int .i64 w) (u23 := .int .i64 q2) (by omega) ((P : Int) - max a 0).toNat (max a 0).toNat s7 M _ (by omega) (by omega) (by omega) hI7 ?_ ?_ ?_ ?_ ?_ ?_ ?_ ?_ ?_).mono ?_
                  all_goals first | (simp [go_sem]; done) | skip
                  rintro q e8 s8 ⟨rfl, hI8, k0, k2, k8, k9, k11, k23, k25⟩
                  rw [← hfl] at hI8
                  simp (disch := omega) [go_sem, k0, k2, k8, k9, k11, k23, k25]
                  refine ih Q c q2 _ s8 _ (by omega) (by omega) (by omega) (by omega) ?_ hI8 ?_ ?_ ?_ ?_ ?_ ?_ ?_
                  · rw [fillL_length, fillL_length]; exact hM
                  all_goals simp [go_sem, k0, k2, k8, k9, k11, k23, k25]
    · have : a = w := by omega
      subst this
      simp (disch := omega) [B.chaseref07_readRow_l4, go_sem, g0, g1, g2, g8, g9, g10, g11, L4Post]
      exact hI

end Go.Ev

/- The reference reads a row: the call. -/
namespace Go.Ev
open Go
set_option linter.unusedSimpArgs false
set_option linter.unusedVariables false

variable {T : Tab} {st : St}

/-- What readRow answers. -/
def RowPost (st s' : St) (R : Option (List Bool × Nat)) (v : AV) : Prop :=
  match R with
  | none => v = .tuple [.nilslice, .int .i64 (-1)] ∧ Ext st s'
  | some (M, p) => ∃ rv, v = .tuple [rv, .int .i64 p] ∧ IntsIn st s' rv M

theorem IntsIn.dropLoc {s : St} {v : AV} {M : List Bool} (h : IntsIn st s v M) : IntsIn st ⟨Go.Ev.dropLoc st.nx s.h, s.nx⟩ v M := ⟨h.frm.dropLoc, h.sl.dropLoc h.frm.wf, h.mine⟩

theorem readRow_call (H : B.HasFax T) (hwf : st.Wf) {bits before : List Bool} {w p k : Nat} (hw : 1 ≤ w) (hw' : w ≤ 128) (hk : 130 ≤ k) {lv bv : AV} (hbl : before.length = w) (hl : bits.length < 10000000) (hlv : Rd st.h lv 1 bits.length (ints bits)) (hbv : Rd st.h bv 1 before.length (ints before)) (hp : p ≤ bits.length) :
    CRes (call T (.fn 27 [] []) [lv, .int .i64 p, bv] st) fun v s' => RowPost st s' (refRow bits before w k (List.replicate w false) (-1) false p) v := by
  refine call_res H.e27 H.f27 rfl ?_
  have hbw : (before.length : Int) = w := by omega
  have hlc : ((w : Nat) : Int) * 8 ≤ 140737488355328 ∧ ((w : Nat) : Int) ≤ 140737488355328 := by omega
  obtain ⟨bn, bo, bc, hbv', hbr⟩ := hbv.slice (by omega)
  have hx := Ext.new hwf (.cells 3 false (ints (List.replicate w false)))
  simp (disch := omega) [B.chaseref07_readRow, go_sem, hbv', hbw, hlc, reps_zero, -List.reduceReplicate]
  rw [← hbv']
  refine (rrow_l4 H hwf (before := before) hw hw' (lv := lv) (bv := bv) (rv := .slice st.nx 0 w (.known w)) hbl hl hlv hbv k (-1) false p (List.replicate w false) ⟨_, _⟩ _ (by omega) (by omega) (by omega) hp (by simp) ⟨hx.fr [], ?_, ?_⟩ ?_ ?_ ?_ ?_ ?_ ?_ ?_).mono ?_
  · rw [List.length_replicate]
    exact ⟨st.nx, .made 3 rfl (by simp [hget]) (by simp [ints_len])⟩
  · intro m hm; simp [AV.nms] at hm; exact .inr (by omega)
  all_goals first | (simp [go_sem]; done) | skip
  generalize refRow bits before w k (List.replicate w false) (-1) false p = R
  rintro q e s h
  cases R with
  | none =>
    obtain ⟨rfl, h6, h7, hE⟩ := h
    simp [go_sem, h6, h7, RowPost, hE.dropLoc]
  | some t =>
    obtain ⟨M, p'⟩ := t
    obtain ⟨rfl, hI, h9, h1⟩ := h
    simp [go_sem, h9, h1, RowPost, hI.dropLoc]

end Go.Ev

/- The reference decodes: the walk. -/
namespace Go.Ev
open Go
set_option linter.unusedSimpArgs false
set_option linter.unusedVariables false

variable {T : Tab} {st : St}

theorem dpad_loop (H : B.HasFax T) {u7 u11 u12 : AV} : ∀ (k : Nat) (s : St) (v : AV) (O : List Bool) (e : Env), (8 - O.length % 8) % 8 = k → O.length + k < 1000000000 → IntsIn st s v O →
    eget e 7 = u7 → eget e 10 = v → eget e 11 = u11 → eget e 12 = u12 →
    Res (run T (.loop B.chaseref07_Decode_l0) e s) fun q e' s' => q = .exit 2 ∧ IntsIn st s' (eget e' 10) (pad8 O) ∧ Frm v.nms s s' ∧ Mine v.nms s (eget e' 10) ∧ eget e' 7 = u7 ∧ eget e' 11 = u11 ∧ eget e' 12 = u12 := by
  intro k
  induction k with
  | zero =>
    intro s v O e hk hl hI g7 g10 g11 g12
    have h8 : (O.length : Int) % 8 = 0 := by omega
    have hd : (O.length : Int).tmod 8 = (O.length % 8 : Nat) := by rw [Int.tmod_eq_emod_of_nonneg (by omega)]; omega
    have hp : pad8 O = O := by simp [pad8, hk]
    rw [hp, run_loop]
    have hfin : Mine v.nms s v := fun n hn => .inl hn
    rcases hI.sl.rd with ⟨h1, h2, h3⟩ | ⟨n, off, cp, h1, h2⟩
    · subst h1
      simp (disch := omega) [B.chaseref07_Decode_l0, go_sem, g7, g10, g11, g12]
      exact ⟨hI, .refl hI.frm.wf _, hfin⟩
    · subst h1
      simp (disch := omega) [B.chaseref07_Decode_l0, go_sem, g7, g10, g11, g12, hd, h8]
      exact ⟨hI, .refl hI.frm.wf _, hfin⟩
  | succ k ih =>
    intro s v O e hk hl hI g7 g10 g11 g12
    have h8 : ¬ (O.length : Int) % 8 ≤ 0 := by omega
    have h8b : 0 < (O.length : Int) % 8 := by omega
    have hd : (O.length : Int).tmod 8 = (O.length % 8 : Nat) := by rw [Int.tmod_eq_emod_of_nonneg (by omega)]; omega
    obtain ⟨n, off, cp, h1, h2⟩ := hI.sl.rd.slice (by omega)
    have hpad : pad8 O = pad8 (O ++ [false]) := by
      unfold pad8
      rw [hk, List.append_assoc]
      congr 1
      have : (8 - (O ++ [false]).length % 8) % 8 = k := by simp; omega
      rw [this, List.replicate_succ]; rfl
    rw [hpad, run_loop]
    simp (disch := omega) [B.chaseref07_Decode_l0, go_sem, g7, g10, g11, g12, h1, hd, h8b]
    rw [← h1]
    refine Sl.push (st0 := s) (S := v.nms) (.refl hI.frm.wf _) (fun n hn => .inl hn) hI.sl rfl (by omega) (by omega) fun v' s' hS' hF' hM' _ => ?_
    have hI' : IntsIn st s' v' (O ++ [false]) := ⟨hI.frm.trans hF' hI.mine, by rw [List.length_append, ints_append]; exact hS', hM'.mono (fun n hn => by
      rcases hI.mine n hn with h | h
      · cases h
      · exact .inr h) hI.frm.nx⟩
    simp (disch := omega) [go_sem]
    refine (ih s' v' (O ++ [false]) _ (by rw [List.length_append, List.length_singleton]; omega) (by rw [List.length_append, List.length_singleton]; omega) hI' ?_ ?_ ?_ ?_).mono ?_
    · simp [go_sem]
    · simp [go_sem]
    · simp [go_sem]
    · simp [go_sem]
    rintro q e2 s2 ⟨rfl, k1, k2, k3, k4⟩
    exact ⟨rfl, k1, hF'.trans k2 (fun n hn => hM' n hn), k3.mono (fun n hn => hM' n hn) hF'.nx, k4⟩

/-- The rows that the reference reads. -/
def refAll (bits : List Bool) (w : Nat) : Nat → List Bool → Nat → Option (List (List Bool) × Nat)
  | 0, _, _ => none
  | k + 1, before, p => if startsB bits p [false, false, false, false, false, false, false, true] = true then some ([], p) else
    match refRow bits before w 200 (List.replicate w false) (-1) false p with
    | none => none
    | some (r, p') => (refAll bits w k r p').map fun t => (r :: t.1, t.2)

/-- What the loop over the rows leaves. -/
def RefL (st s' : St) (w : Nat) (lv : AV) (O : List Bool) (bits : List Bool) (R : Option (List (List Bool) × Nat)) (q : Ex) (e' : Env) : Prop :=
  match R with
  | none => q = .ret ∧ eget e' 4 = .str [] ∧ eget e' 5 = .int .i64 0 ∧ eget e' 6 = .int .i64 5 ∧ Ext st s'
  | some (rs, p) => q = .exit 0 ∧ eget e' 7 = lv ∧ eget e' 8 = .int .i64 p ∧ p + 8 ≤ bits.length ∧ IntsIn st s' (eget e' 10) (O ++ rs.flatMap (rowOut w))

/-- What is known of a row that has been read. -/
theorem refStep_some {bits before : List Bool} {w a : Int} {row row' : List Bool} {c c' : Bool} {a' : Int} {p p' : Nat} (ha : -1 ≤ a) (haw : a < w) (hw : 1 ≤ w) (hp : p ≤ bits.length) (h : refStep bits before w row a c p = some (row', a', c', p')) :
    row'.length = row.length ∧ p < p' ∧ p' ≤ bits.length ∧ a < a' ∧ a' ≤ w := by
  obtain ⟨b1, b2, b3, b4, b5, b6, b7, b8⟩ := enc_more row before c ha haw hw
  unfold refStep at h
  split at h
  · rename_i j hV
    have hVs := findV_some 7 0 j hV (by omega)
    have hle := startsB_le hVs.1 hp
    have hwl : (wordBits (vw j)).length = (vw j).length := by simp [wordBits]
    have hpos : 0 < (vw j).length := by
      have hj := hVs.2
      have : j = 0 ∨ j = 1 ∨ j = 2 ∨ j = 3 ∨ j = 4 ∨ j = 5 ∨ j = 6 := by omega
      rcases this with rfl | rfl | rfl | rfl | rfl | rfl | rfl <;> decide
    split at h
    · cases h
    · rename_i r a1 c1 hv
      simp only [Option.some.injEq, Prod.mk.injEq] at h
      obtain ⟨rfl, rfl, rfl, rfl⟩ := h
      obtain ⟨v1, v2, v3⟩ := vertF_more hv
      exact ⟨v3, by omega, by omega, v1, v2⟩
  · split at h
    · rename_i hp1
      simp only [Option.some.injEq, Prod.mk.injEq] at h
      obtain ⟨rfl, rfl, rfl, rfl⟩ := h
      have hle := startsB_le hp1.1 hp
      simp only [List.length_cons, List.length_nil] at hle
      exact ⟨fillL_length _ _ _ _, by omega, by omega, by omega, by omega⟩
    · split at h
      · cases h
      · rename_i hp2
        have hle := startsB_le (by simpa using hp2) hp
        simp only [List.length_cons, List.length_nil] at hle
        split at h
        · cases h
        · rename_i n q1 hr1
          obtain ⟨n1, n2, n3, n4⟩ := rrF_some hr1
          split at h
          · cases h
          · rename_i m q2 hr2
            obtain ⟨m1, m2, m3, m4⟩ := rrF_some hr2
            split at h
            · cases h
            · rename_i hc
              simp only [Option.some.injEq, Prod.mk.injEq] at h
              obtain ⟨rfl, rfl, rfl, rfl⟩ := h
              exact ⟨by rw [fillL_length, fillL_length], by omega, by omega, by omega, by omega⟩

theorem refRow_some {bits before : List Bool} {w : Int} (hw : 1 ≤ w) : ∀ (k : Nat) (row : List Bool) (a : Int) (c : Bool) (p : Nat) (row' : List Bool) (p' : Nat), -1 ≤ a → p ≤ bits.length → refRow bits before w k row a c p = some (row', p') →
    row'.length = row.length ∧ (a < w → p < p') ∧ p ≤ p' ∧ p' ≤ bits.length
  | 0, row, a, c, p, row', p', _, _, h => by cases h
  | k + 1, row, a, c, p, row', p', ha, hp, h => by
    simp only [refRow] at h
    split at h
    · rename_i haw
      split at h
      · cases h
      · rename_i r a1 c1 p1 hs
        obtain ⟨h1, h2, h3, h4, h5⟩ := refStep_some ha haw hw hp hs
        obtain ⟨i1, i2, i3, i4⟩ := refRow_some hw k r a1 c1 p1 row' p' (by omega) h3 h
        exact ⟨by omega, fun _ => by omega, by omega, i4⟩
    · simp only [Option.some.injEq, Prod.mk.injEq] at h
      obtain ⟨rfl, rfl⟩ := h
      exact ⟨rfl, fun h => by omega, by omega, hp⟩

theorem refdec_l1 (H : B.HasFax T) (hwf : st.Wf) {bits : List Bool} {w : Nat} (hw : 1 ≤ w) (hw' : w ≤ 128) {lv : AV} (hl : bits.length < 10000000) (hlv : Rd st.h lv 1 bits.length (ints bits)) :
    ∀ (k : Nat) (before : List Bool) (p : Nat) (s : St) (bv v : AV) (O : List Bool) (e : Env), bits.length < p + k → p ≤ bits.length → O.length + 128 * k < 900000000 → O.length % 8 = 0 → before.length = w → Rd s.h bv 1 before.length (ints before) → (∀ n ∈ bv.nms, n ∉ v.nms) → IntsIn st s v O →
    eget e 7 = lv → eget e 8 = .int .i64 p → eget e 9 = bv → eget e 10 = v →
    Res (run T (.loop B.chaseref07_Decode_l1) e s) fun q e' s' => RefL st s' w lv O bits (refAll bits w k before p) q e' := by
  intro k
  induction k with
  | zero => intro before p s bv v O e h1 h2; omega
  | succ k ih =>
    intro before p s bv v O e hk hp hOl hO8 hbl hbv hdis hI g7 g8 g9 g10
    have hls := hlv.ext hI.frm.ext0 hwf
    have t1 := starts_tells (T := T) H hI.frm.wf hls hl (w := [48, 48, 48, 48, 48, 48, 48, 49]) (by decide) (by decide) (by decide) hp
    rw [show wordBits [48, 48, 48, 48, 48, 48, 48, 49] = [false, false, false, false, false, false, false, true] from by decide] at t1
    simp only [refAll]
    rw [run_loop]
    simp (disch := omega) [B.chaseref07_Decode_l1, go_sem, g7, g8, g9, g10]
    refine t1.use fun s1 hs1 => ?_
    have hI1 := hI.ext hs1
    have hls1 := hls.ext hs1 hI.frm.wf
    have hbv1 := hbv.ext hs1 hI.frm.wf
    cases hst : startsB bits p [false, false, false, false, false, false, false, true]
    · simp (disch := omega) [go_sem, hst]
      refine (readRow_call (k := 200) H hs1.wf hw hw' (by omega) hbl hl hls1 hbv1 hp).mono fun rv s2 h2 => ?_
      cases hR : refRow bits before w 200 (List.replicate w false) (-1) false p with
      | none =>
        rw [hR] at h2
        obtain ⟨rfl, hE⟩ := h2
        have hE2 := hI1.frm.ext0.trans hE
        simp (disch := omega) [go_sem, RefL, hE2]
      | some t =>
        obtain ⟨M, p'⟩ := t
        rw [hR] at h2
        obtain ⟨rv, rfl, hIr⟩ := h2
        obtain ⟨r1, r2, r3, r4⟩ := refRow_some (by omega) _ _ _ _ _ _ _ (by omega) hp hR
        rw [List.length_replicate] at r1
        have r2 := r2 (by omega)
        have hp0 : ¬ (p' : Int) < 0 := by omega
        have hEr := hIr.frm.ext0
        have hI2 := hI1.ext hEr
        have hvlt := hI1.sl.rd.lt hI1.frm.wf
        have hrn : ∀ n ∈ rv.nms, s1.nx ≤ n := fun n hn => by
          rcases hIr.mine n hn with h | h
          · cases h
          · exact h
        have hrlt := hIr.sl.rd.lt hIr.frm.wf
        have hdr : ∀ n ∈ rv.nms, n ∉ v.nms := fun n hn hn' => by have := hvlt n hn'; have := hrn n hn; omega
        simp (disch := omega) [go_sem, hp0]
        have hv2 : Sl s2 v 3 1 O.length (ints O) := hI2.sl
        refine (Sl.append (st0 := s2) (S := v.nms) (.refl hI2.frm.wf _) (fun n hn => .inl hn) hv2 hIr.sl.rd (ints_sc _) (by omega) (by omega) (.inl (by omega))).mono ?_
        rintro v3 s3 ⟨a1, a2, a3, -⟩
        have hmine3 : Mine [] st v3 := a3.mono (fun n hn => by
          rcases hI2.mine n hn with h | h
          · cases h
          · exact .inr h) hI2.frm.nx
        have hI3 : IntsIn st s3 v3 (O ++ M) := ⟨hI2.frm.trans a2 (fun n hn => by
          rcases hI2.mine n hn with h | h
          · cases h
          · exact .inr h), by rw [List.length_append, ints_append]; exact a1, hmine3⟩
        have hdis3 : ∀ n ∈ rv.nms, n ∉ v3.nms := fun n hn hn' => by
          rcases a3 n hn' with h | h
          · exact hdr n hn h
          · have := hrlt n hn; omega
        have hr3 := hIr.sl.rd.frm a2 hIr.frm.wf (fun n hn hn' => hdr n hn hn')
        have hr3lt := hr3.lt a2.wf
        simp (disch := omega) [go_sem]
        refine (dpad_loop H (u7 := lv) (u11 := rv) (u12 := .int .i64 p') _ s3 v3 (O ++ M) _ rfl (by rw [List.length_append]; omega) hI3 ?_ ?_ ?_ ?_).mono ?_
        · simp [go_sem]
        · simp [go_sem]
        · simp [go_sem]
        · simp [go_sem]
        rintro q e4 s4 ⟨rfl, b1, b2, b3, b4, b5, b6⟩
        rw [pad8_row hO8 r1] at b1
        have hr4 := hr3.frm b2 a2.wf hdis3
        simp (disch := omega) [go_sem, b4, b5, b6]
        have hro := rowOut_length w M
        refine (ih M p' s4 rv (eget e4 10) (O ++ rowOut w M) _ (by omega) r4 (by rw [List.length_append]; omega) (by rw [List.length_append]; omega) r1 hr4 ?_ b1 ?_ ?_ ?_ ?_).mono ?_
        · intro n hn hn'
          rcases b3 n hn' with h | h
          · exact hdis3 n hn h
          · have := hr3lt n hn; omega
        · simp [go_sem, b4]
        · simp [go_sem, b6]
        · simp [go_sem, b5]
        · simp [go_sem]
        intro q e5 s5 h5
        cases hA : refAll bits w k M p' with
        | none => rw [hA] at h5; exact h5
        | some t =>
          obtain ⟨rs, pp⟩ := t
          rw [hA] at h5
          simp only [RefL, Option.map_some] at h5 ⊢
          rw [List.flatMap_cons, ← List.append_assoc]
          exact h5
    · have hle := startsB_le hst hp
      simp only [List.length_cons, List.length_nil] at hle
      simp (disch := omega) [go_sem, hst, RefL]
      exact ⟨by omega, hI1⟩

end Go.Ev

/- The reference decodes: what Decode answers. -/
namespace Go.Ev
open Go
set_option linter.unusedSimpArgs false
set_option linter.unusedVariables false

variable {T : Tab} {st : St}

/-- What the loop over the last octet leaves. -/
def RefP (st s' : St) (v : AV) (d : Option Nat) (q : Ex) (e' : Env) : Prop :=
  match d with
  | none => q = .ret ∧ eget e' 4 = .str [] ∧ eget e' 5 = .int .i64 0 ∧ eget e' 6 = .int .i64 5 ∧ s' = st
  | some a => q = .exit 4 ∧ eget e' 8 = .int .i64 a ∧ eget e' 10 = v ∧ s' = st

theorem refdec_l2 {bits : List Bool} {n off : Nat} {cp : Cap} (hr : rdCells st.h n off (bits.length * 1) = some (ints bits)) (hl : bits.length < 10000000) (hl8 : bits.length % 8 = 0) {v : AV} : ∀ (k a : Nat) (e : Env), (8 - a % 8) % 8 < k → a ≤ bits.length →
    eget e 7 = .slice n off bits.length cp → eget e 8 = .int .i64 a → eget e 10 = v →
    Res (run T (.loop B.chaseref07_Decode_l2) e st) fun q e' s' => RefP st s' v (padF bits k a) q e' := by
  intro k
  induction k with
  | zero => intro a e h; omega
  | succ k ih =>
    intro a e hk ha g7 g8 g10
    have hd : (a : Int).tmod 8 = (a % 8 : Nat) := by rw [Int.tmod_eq_emod_of_nonneg (by omega)]; omega
    simp only [padF]
    rw [run_loop]
    by_cases h8 : a % 8 = 0
    · rw [if_pos h8]
      have h8' : (a : Int) % 8 = 0 := by omega
      simp (disch := omega) [B.chaseref07_Decode_l2, go_sem, g7, g8, g10, hd, h8', RefP]
    · rw [if_neg h8]
      have h8' : 0 < (a : Int) % 8 := by omega
      have hlt : (a : Int) < bits.length := by omega
      have hg := rdCells_get hr (i := a) (by omega)
      rw [ints_get (by omega)] at hg
      cases hb : bits.getD a false <;> rw [hb] at hg
      · simp (disch := omega) [B.chaseref07_Decode_l2, go_sem, g7, g8, g10, hd, h8', hlt, hg, RefP, wrap64]
        refine ih (a + 1) _ (by omega) (by omega) ?_ ?_ ?_
        · simp [go_sem]
        · simp [go_sem]
        · simp [go_sem]
      · simp (disch := omega) [B.chaseref07_Decode_l2, go_sem, g7, g8, g10, hd, h8', hlt, hg, RefP]

/-- What the reference's Decode answers. -/
def refSpec (s : List UInt8) (w : Int) : List UInt8 × Int × Int :=
  if 65536 < s.length then ([], 0, 3) else if w < 1 ∨ 128 < w then ([], 0, 2)
  else match refAll (strBits s) w.toNat (8 * s.length + 1) (List.replicate w.toNat false) 0 with
    | none => ([], 0, 5)
    | some (rs, p) => match padF (strBits s) 9 (p + 8) with
      | none => ([], 0, 5)
      | some a => if 65536 < rs.length * ((w.toNat + 7) / 8) then ([], 0, 3) else ((packN (rs.flatMap (rowOut w.toNat))).map UInt8.ofNat, (a / 8 : Nat), 0)

theorem padF_le {bits : List Bool} : ∀ (k a b : Nat), padF bits k a = some b → a ≤ b ∧ b ≤ a + k
  | 0, a, b, h => by simp [padF] at h; omega
  | k + 1, a, b, h => by
    simp only [padF] at h
    split at h
    · simp at h; omega
    · split at h
      · cases h
      · have := padF_le k (a + 1) b h; omega

theorem refAll_len {bits : List Bool} {w : Nat} (hw : 1 ≤ w) : ∀ (k : Nat) (before : List Bool) (p : Nat) (rs : List (List Bool)) (q : Nat), refAll bits w k before p = some (rs, q) → rs.length ≤ k
  | 0, before, p, rs, q, h => by cases h
  | k + 1, before, p, rs, q, h => by
    simp only [refAll] at h
    split at h
    · simp at h; rw [h.1]; simp
    · split at h
      · cases h
      · rename_i r p' _
        cases hA : refAll bits w k r p' with
        | none => rw [hA] at h; cases h
        | some t =>
          obtain ⟨rs', q'⟩ := t
          rw [hA] at h
          simp only [Option.map_some, Option.some.injEq, Prod.mk.injEq] at h
          have := refAll_len hw k r p' rs' q' hA
          rw [← h.1, List.length_cons]
          omega

theorem refdec_tells (H : B.HasFax T) (hwf : st.Wf) (s : List UInt8) (w : Int) (hs : s.length < 4611686018427387904) :
    Tells T st (.fn 12 [] []) [.str s, .int .i64 w] (.tuple [.str (refSpec s w).1, .int .i64 (refSpec s w).2.1, .int .i64 (refSpec s w).2.2]) := by
  refine tells_of H.e12 H.f12 rfl ?_
  generalize hV : refSpec s w = V
  unfold refSpec at hV
  by_cases hl : 65536 < s.length
  · have hl' : (65536 : Int) < s.length := by omega
    rw [if_pos hl] at hV
    simp (disch := omega) [B.chaseref07_Decode, go_sem, hl', hl, Ext.refl hwf, ← hV]
  have hl' : ¬ (65536 : Int) < s.length := by omega
  rw [if_neg hl] at hV
  by_cases hw : w < 1
  · rw [if_pos (.inl hw)] at hV
    simp (disch := omega) [B.chaseref07_Decode, go_sem, hl', hl, hw, Ext.refl hwf, ← hV]
  by_cases hw2 : 128 < w
  · rw [if_pos (.inr hw2)] at hV
    simp (disch := omega) [B.chaseref07_Decode, go_sem, hl', hl, hw, hw2, Ext.refl hwf, ← hV]
  obtain ⟨w, rfl⟩ := Int.eq_ofNat_of_zero_le (show 0 ≤ w by omega)
  rw [if_neg (by omega)] at hV
  simp only [Int.toNat_natCast] at hV
  have hw' : ¬ (w : Int) < 1 := hw
  have hbl := strBits_length s
  simp (disch := omega) [B.chaseref07_Decode, go_sem, hl', hw', hw2]
  refine (bits_makes H hwf (w := s) (by omega)).use fun lv s1 hs1 hls hlm => ?_
  rw [← hbl] at hls
  have hlc : ((w : Nat) : Int) * 8 ≤ 140737488355328 ∧ ((w : Nat) : Int) ≤ 140737488355328 := by omega
  have hx2 := Ext.new hs1.wf (.cells 3 false (ints (List.replicate w false)))
  simp (disch := omega) [go_sem, hlc, reps_zero, -List.reduceReplicate]
  refine (refdec_l1 H (st := ⟨_, _⟩) hx2.wf (w := w) (by omega) (by omega) (lv := lv) (bits := strBits s) (by omega) (hls.rd.ext hx2 hs1.wf) (8 * s.length + 1) (List.replicate w false) 0 ⟨_, _⟩ (.slice s1.nx 0 w (.known w)) .nilslice [] _ (by omega) (by omega) (by simp only [List.length_nil]; omega) rfl (by simp)
    (.inr ⟨s1.nx, 0, .known w, by simp, rd_all (ty := 3) (l := false) (by simp [hget]) (by simp [ints_len])⟩) (fun n h h' => by cases h') ⟨.refl hx2.wf _, .nil _ _ _, .nil _ _⟩ ?_ ?_ ?_ ?_).mono ?_
  · simp [go_sem]
  · simp [go_sem]
  · simp [go_sem]
  · simp [go_sem]
  intro q e s2 h2
  cases hA : refAll (strBits s) w (8 * s.length + 1) (List.replicate w false) 0 with
  | none =>
    rw [hA] at h2 hV
    obtain ⟨rfl, f4, f5, f6, hE⟩ := h2
    have hE2 := (hs1.trans hx2).trans hE
    simp (disch := omega) [go_sem, f4, f5, f6, hE2, ← hV]
  | some t =>
    obtain ⟨rs, p⟩ := t
    rw [hA] at h2 hV
    simp only at hV
    obtain ⟨rfl, f7, f8, f9, hI⟩ := h2
    rw [List.nil_append] at hI
    have hrl := refAll_len (by omega) _ _ _ _ _ hA
    have hfl := flat_length w rs
    have hrn : rs.length * (8 * ((w + 7) / 8)) ≤ 524289 * 128 := Nat.mul_le_mul (by omega) (by omega)
    obtain ⟨n, off, cp, hlv, hlr⟩ := ((hls.rd.ext hx2 hs1.wf).ext hI.frm.ext0 hx2.wf).slice (by omega)
    have hE2 := (hs1.trans hx2).trans hI.frm.ext0
    simp (disch := omega) [go_sem, f7, f8, wrap64]
    refine (refdec_l2 (st := s2) (v := eget e 10) (cp := cp) hlr (by omega) (by omega) 9 (p + 8) _ (by omega) (by omega) ?_ ?_ ?_).mono ?_
    · simp [go_sem, f7, hlv]
    · simp [go_sem]
    · simp [go_sem]
    intro q e3 s3 h3
    cases hP : padF (strBits s) 9 (p + 8) with
    | none =>
      rw [hP] at h3 hV
      obtain ⟨rfl, k4, k5, k6, rfl⟩ := h3
      simp (disch := omega) [go_sem, k4, k5, k6, hE2, ← hV]
    | some a =>
      rw [hP] at h3 hV
      have hpl := padF_le _ _ _ hP
      obtain ⟨rfl, k8, k10, rfl⟩ := h3
      simp only at hV
      have hbig : 65536 < rs.length * ((w + 7) / 8) ↔ 524288 < (rs.flatMap (rowOut w)).length := by
        rw [hfl, Nat.mul_left_comm]; omega
      have hda : (a : Int).tdiv 8 = (a / 8 : Nat) := by rw [Int.tdiv_eq_ediv_of_nonneg (by omega)]; omega
      generalize rs.flatMap (rowOut w) = out at *
      have hlen := hI.sl.rd
      by_cases hb : 65536 < rs.length * ((w + 7) / 8)
      · have hb' : (524288 : Int) < out.length := by have := hbig.1 hb; omega
        rw [if_pos hb] at hV
        rcases hlen with ⟨h1, h2, h3⟩ | ⟨n2, off2, cp2, h1, h2⟩
        · omega
        · simp (disch := omega) [go_sem, k8, k10, h1, hb', hE2, ← hV]
      · have hb' : ¬ (524288 : Int) < out.length := by have := mt hbig.2 hb; omega
        rw [if_neg hb] at hV
        have tp := pack_tells (T := T) H hE2.wf (L := out) hI.sl.rd (by omega)
        rcases hlen with ⟨h1, h2, h3⟩ | ⟨n2, off2, cp2, h1, h2⟩
        · rw [h1] at tp
          simp (disch := omega) [go_sem, k8, k10, h1]
          refine tp.use fun s7 hs7 => ?_
          have hE7 := hE2.trans hs7
          simp (disch := omega) [go_sem, hda, hE7, wrap64, ← hV]
        · rw [h1] at tp
          simp (disch := omega) [go_sem, k8, k10, h1, hb']
          refine tp.use fun s7 hs7 => ?_
          have hE7 := hE2.trans hs7
          simp (disch := omega) [go_sem, hda, hE7, wrap64, ← hV]

end Go.Ev

/- The reference's Decode and the program's answer alike: plain laws. -/
namespace Go.Ev
open Go
set_option linter.unusedSimpArgs false
set_option linter.unusedVariables false

variable {bits before row R : List Bool} {w a : Int} {c : Bool} {p : Nat}

theorem zF_end : ∀ (k f c i : Nat), Rem bits i (List.replicate k false) → k < f → (zF bits f c (i, false)).2.2 = true ∧ (zF bits f c (i, false)).1 = c + k
  | 0, f + 1, c, i, h, _ => by
    have h1 := h.len
    simp only [List.replicate_zero, List.length_nil] at h1
    have h2 : rb bits (i, false) = (false, (i, true)) := by
      unfold rb
      rw [if_neg (by simp only; omega)]
    simp [zF, h2]
  | k + 1, f + 1, c, i, h, hf => by
    rw [List.replicate_succ] at h
    obtain ⟨h1, h2⟩ := Rem.cons (f := false) h
    obtain ⟨h3, h4⟩ := zF_end k f (c + 1) (i + 1) h2 (by omega)
    simp only [zF, h1]
    rw [if_pos (by simp)]
    exact ⟨h3, by rw [h4]; omega⟩
theorem zF_full : ∀ (f c i : Nat) (R : List Bool), Rem bits i (List.replicate f false ++ R) → zF bits f c (i, false) = (c + f, (i + f, false))
  | 0, c, i, R, h => rfl
  | f + 1, c, i, R, h => by
    rw [List.replicate_succ, List.cons_append] at h
    obtain ⟨h1, h2⟩ := Rem.cons (f := false) h
    simp only [zF, h1]
    rw [if_pos (by simp), zF_full f (c + 1) (i + 1) R h2, show c + 1 + f = c + (f + 1) by omega, show i + 1 + f = i + (f + 1) by omega]

theorem zc_split : ∀ l : List Bool, (l = List.replicate (zc l) false) ∨ ∃ R, l = List.replicate (zc l) false ++ true :: R
  | [] => .inl rfl
  | true :: l => .inr ⟨l, rfl⟩
  | false :: l => by
    rcases zc_split l with h | ⟨R, h⟩
    · left; simp only [zc, List.replicate_succ]; rw [← h]
    · right; refine ⟨R, ?_⟩; simp only [zc, List.replicate_succ, List.cons_append]; rw [← h]

theorem numF_cap : ∀ (k n q : Nat), q + k ≤ bits.length → (n + 1) * 2 ^ k ≤ 1048576 → numF bits k n (q, false) = (capN bits k n q, (q + k, false))
  | 0, n, q, _, _ => rfl
  | k + 1, n, q, hq, hn => by
    have h1 : rb bits (q, false) = (bits.getD q false, (q + 1, false)) := by
      unfold rb
      rw [if_pos (by simp only; omega)]
    rw [Nat.pow_succ] at hn
    simp only [numF, capN, h1]
    generalize bits.getD q false = b
    have hb : b.toNat ≤ 1 := by cases b <;> decide
    have hp : 1 ≤ 2 ^ k := Nat.one_le_two_pow
    have hm : (2 * n + b.toNat + 1) * 2 ^ k ≤ 1048576 := by
      refine Nat.le_trans (Nat.mul_le_mul_right (2 ^ k) (show 2 * n + b.toNat + 1 ≤ 2 * (n + 1) by omega)) ?_
      rw [Nat.mul_comm 2 (n + 1), Nat.mul_assoc, Nat.mul_comm 2]
      exact hn
    have hle : 2 * n + b.toNat + 1 ≤ 1048576 := Nat.le_trans (Nat.le_mul_of_pos_right _ (by omega)) hm
    rw [show min (n * 2 + b.toNat) 1048576 = 2 * n + b.toNat by omega, numF_cap k (2 * n + b.toNat) (q + 1) (by omega) hm, show q + 1 + k = q + (k + 1) by omega]
theorem numF_out : ∀ (k n q : Nat), bits.length < q + k → q ≤ bits.length → (numF bits k n (q, false)).2.2 = true
  | 0, n, q, h, h2 => by omega
  | k + 1, n, q, h, h2 => by
    simp only [numF]
    by_cases hq : q < bits.length
    · have h1 : rb bits (q, false) = (bits.getD q false, (q + 1, false)) := by
        unfold rb
        rw [if_pos (by simp only; omega)]
      rw [h1]
      exact numF_out k _ _ (by omega) (by omega)
    · have h1 : rb bits (q, false) = (false, (q, true)) := by
        unfold rb
        rw [if_neg (by simp only; omega)]
      rw [h1]
      exact numF_bad _ _ _ rfl
theorem capN_big : ∀ (k n q : Nat), min (n * 2 ^ k) 1048576 ≤ capN bits k n q
  | 0, n, q => by simp only [capN]; omega
  | k + 1, n, q => by
    simp only [capN]
    generalize bits.getD q false = b
    have h1 := capN_big k (min (n * 2 + b.toNat) 1048576) (q + 1)
    have hp : 1 ≤ 2 ^ k := Nat.one_le_two_pow
    rw [Nat.pow_succ]
    refine Nat.le_trans ?_ h1
    by_cases h : n * 2 + b.toNat ≤ 1048576
    · rw [show min (n * 2 + b.toNat) 1048576 = n * 2 + b.toNat by omega]
      have : n * (2 ^ k * 2) ≤ (n * 2 + b.toNat) * 2 ^ k := by
        rw [show n * (2 ^ k * 2) = n * 2 * 2 ^ k by rw [Nat.mul_comm (2 ^ k) 2, Nat.mul_assoc]]
        exact Nat.mul_le_mul_right _ (by omega)
      omega
    · rw [show min (n * 2 + b.toNat) 1048576 = 1048576 by omega]
      have : 1048576 ≤ 1048576 * 2 ^ k := Nat.le_mul_of_pos_right _ (by omega)
      omega

/-- The reference's run and the program's. -/
theorem rr_run (hp : p ≤ bits.length) :
    (rrF bits p = none ∧ ((runF bits (p, false)).2.2 = true ∨ 129 ≤ (runF bits (p, false)).1)) ∨
    (∃ n q, rrF bits p = some (n, q) ∧ (runF bits (p, false) = (n - 1, (q, false)) ∨ (129 ≤ (runF bits (p, false)).1 ∧ 130 ≤ n))) := by
  have hrem : Rem bits p (bits.drop p) := ⟨hp, rfl⟩
  unfold rrF
  rcases zc_split (bits.drop p) with hD | ⟨R, hD⟩
  · generalize zc (bits.drop p) = k at *
    rw [hD] at hrem
    have hl := hrem.len
    rw [List.length_replicate] at hl
    obtain ⟨z1, z2⟩ := zF_end k (bits.length + 2) 0 p hrem (by omega)
    rw [if_pos (by omega)]
    refine .inl ⟨rfl, ?_⟩
    unfold runF
    split
    · exact .inr (by simp)
    · exact .inl (numF_bad _ _ _ z1)
  · generalize zc (bits.drop p) = k at *
    rw [hD] at hrem
    have hl := hrem.len
    rw [List.length_append, List.length_replicate, List.length_cons] at hl
    obtain ⟨z1, z2⟩ := zF_rem k (bits.length + 2) 0 p R hrem (by omega)
    have hbit : bits.getD (p + k) false = true := by
      have := Rem.skip (A := List.replicate k false) hrem
      rw [List.length_replicate] at this
      have h2 := (Rem.cons (f := false) this).1
      unfold rb at h2
      rw [if_pos (by simp only; omega)] at h2
      exact congrArg Prod.fst h2
    by_cases hk : k > 8
    · have hrun : (runF bits (p, false)).1 = 129 := by
        unfold runF
        rw [z1, if_pos (by simp only; omega)]
      split
      · exact .inl ⟨rfl, .inr (by omega)⟩
      · refine .inr ⟨_, _, rfl, .inr ⟨by omega, ?_⟩⟩
        rw [capN, hbit]
        have h1 := capN_big (bits := bits) k (min (0 * 2 + true.toNat) 1048576) (p + k + 1)
        have h2 : 2 ^ 9 ≤ 2 ^ k := Nat.pow_le_pow_right (by decide) (by omega)
        have h3 : min (0 * 2 + true.toNat) 1048576 = 1 := by decide
        rw [h3] at h1 ⊢
        omega
    · have hrun : runF bits (p, false) = ((numF bits k 1 (p + k + 1, false)).1 - 1, (numF bits k 1 (p + k + 1, false)).2) := by
        unfold runF
        rw [z1, if_neg (by simp only; omega)]
        simp only [Nat.zero_add]
      split
      · exact .inl ⟨rfl, .inl (by rw [hrun]; exact numF_out _ _ _ (by omega) (by omega))⟩
      · refine .inr ⟨_, _, rfl, .inl ?_⟩
        have h2 : 2 ^ k ≤ 2 ^ 8 := Nat.pow_le_pow_right (by decide) (by omega)
        rw [hrun, numF_cap k 1 (p + k + 1) (by omega) (by omega)]
        have h3 : capN bits (k + 1) 0 (p + k) = capN bits k 1 (p + k + 1) := by
          rw [capN, hbit]
          rfl
        rw [h3]
        refine Prod.ext rfl (Prod.ext ?_ rfl)
        simp only
        omega

/-- The bits from a position on: no 1 among the next eight, or a 1 behind some zeros. -/
theorem heads (D : List Bool) : (∃ k, k < 8 ∧ D = List.replicate k false) ∨ (∃ R, D = List.replicate 8 false ++ R) ∨ ∃ k R, k < 8 ∧ D = List.replicate k false ++ true :: R := by
  rcases zc_split D with h | ⟨R, h⟩
  · by_cases hk : zc D < 8
    · exact .inl ⟨_, hk, h⟩
    · refine .inr (.inl ⟨List.replicate (zc D - 8) false, ?_⟩)
      rw [List.replicate_append_replicate, show 8 + (zc D - 8) = zc D by omega]
      exact h
  · by_cases hk : zc D < 8
    · exact .inr (.inr ⟨_, R, hk, h⟩)
    · refine .inr (.inl ⟨List.replicate (zc D - 8) false ++ true :: R, ?_⟩)
      rw [← List.append_assoc, List.replicate_append_replicate, show 8 + (zc D - 8) = zc D by omega]
      exact h

/-- A horizontal mode, read by the reference and by the program. -/
def refHor (bits : List Bool) (w : Int) (row : List Bool) (a : Int) (c : Bool) (p : Nat) : Option (List Bool × Int × Bool × Nat) :=
  match rrF bits p with
  | none => none
  | some (n, q1) => match rrF bits q1 with
    | none => none
    | some (m, q2) =>
      if max a 0 + ((n : Int) - 1) ≤ a ∨ max a 0 + ((n : Int) - 1) + ((m : Int) - 1) ≤ a ∨ w < max a 0 + ((n : Int) - 1) + ((m : Int) - 1) then none
      else some (fillL (fillL row c (max a 0) (max a 0 + ((n : Int) - 1))) (!c) (max a 0 + ((n : Int) - 1)) (max a 0 + ((n : Int) - 1) + ((m : Int) - 1)), max a 0 + ((n : Int) - 1) + ((m : Int) - 1), c, q2)
def progHor (bits : List Bool) (w : Int) (row : List Bool) (a : Int) (c : Bool) (p : Nat) : DR :=
  match horF bits w row a c (p, false) with
  | none => .fail
  | some (r, a', c') => if (runF bits (runF bits (p, false)).2).2.2 = true then .fail else .go r a' c' (runF bits (runF bits (p, false)).2).2

theorem progHor_bad (h : (runF bits (runF bits (p, false)).2).2.2 = true) : progHor bits w row a c p = .fail := by
  unfold progHor
  split
  · rfl
  · rw [if_pos h]
theorem progHor_wide (h : w < max a 0 + ((runF bits (p, false)).1 : Nat) + ((runF bits (runF bits (p, false)).2).1 : Nat)) : progHor bits w row a c p = .fail := by
  unfold progHor horF
  rw [if_pos (.inr (.inr h))]

theorem hor_same (hw : 1 ≤ w) (hw' : w ≤ 128) (hp : p ≤ bits.length) : match refHor bits w row a c p with
    | none => progHor bits w row a c p = .fail
    | some (r, a', c', p') => progHor bits w row a c p = .go r a' c' (p', false) := by
  rcases rr_run hp with ⟨h1, h2⟩ | ⟨n, q, h1, h2⟩
  · simp only [refHor, h1]
    rcases h2 with h2 | h2
    · exact progHor_bad (runF_bad h2)
    · exact progHor_wide (by omega)
  · obtain ⟨n1, n2, n3, n4⟩ := rrF_some h1
    rcases h2 with h2 | ⟨h2, h2'⟩
    · rcases rr_run n3 with ⟨h3, h4⟩ | ⟨m, q2, h3, h4⟩
      · simp only [refHor, h1, h3]
        rcases h4 with h4 | h4
        · exact progHor_bad (by rw [h2]; exact h4)
        · exact progHor_wide (by rw [h2]; simp only; omega)
      · obtain ⟨m1, m2, m3, m4⟩ := rrF_some h3
        simp only [refHor, h1, h3]
        rcases h4 with h4 | ⟨h4, h4'⟩
        · have e1 : ((n - 1 : Nat) : Int) = (n : Int) - 1 := by omega
          have e2 : ((m - 1 : Nat) : Int) = (m : Int) - 1 := by omega
          unfold progHor horF
          simp only [h2, h4, e1, e2]
          by_cases hc : max a 0 + ((n : Int) - 1) ≤ a ∨ max a 0 + ((n : Int) - 1) + ((m : Int) - 1) ≤ a ∨ w < max a 0 + ((n : Int) - 1) + ((m : Int) - 1)
          · rw [if_pos hc, if_pos hc]
          · rw [if_neg hc, if_neg hc]
            simp
        · rw [if_pos (by omega)]
          exact progHor_wide (by rw [h2]; simp only; omega)
    · simp only [refHor, h1]
      have hf : progHor bits w row a c p = .fail := progHor_wide (by omega)
      cases h3 : rrF bits q with
      | none => exact hf
      | some t =>
        obtain ⟨m, q2⟩ := t
        obtain ⟨m1, m2, m3, m4⟩ := rrF_some h3
        simp only
        rw [if_pos (by omega)]
        exact hf

/-- The end stands at a position. -/
def endsB (bits : List Bool) (p : Nat) : Bool := startsB bits p [false, false, false, false, false, false, false, true]

/-- The reference's step and the program's. -/
def StepSame (bits before : List Bool) (w : Int) (row : List Bool) (a : Int) (c : Bool) (p : Nat) : Prop :=
  match refStep bits before w row a c p with
  | none => if a < 0 ∧ endsB bits p = true then stepF bits before w row a c (p, false) = .fin (p + 8, false) else stepF bits before w row a c (p, false) = .fail
  | some (r, a', c', p') => stepF bits before w row a c (p, false) = .go r a' c' (p', false) ∧ endsB bits p = false

theorem step_same (ha : -1 ≤ a) (haw : a < w) (hw : 1 ≤ w) (hw' : w ≤ 128) (hp : p ≤ bits.length) : StepSame bits before w row a c p := by
  have hrem : Rem bits p (bits.drop p) := ⟨hp, rfl⟩
  rcases heads (bits.drop p) with ⟨k, hk, hD⟩ | ⟨R, hD⟩ | ⟨k, R, hk, hD⟩
  · rw [hD] at hrem
    obtain ⟨z1, z2⟩ := zF_end k 8 0 p hrem hk
    have hs : stepF bits before w row a c (p, false) = .fail := by unfold stepF; rw [if_pos z1]
    have hk8 : k = 0 ∨ k = 1 ∨ k = 2 ∨ k = 3 ∨ k = 4 ∨ k = 5 ∨ k = 6 ∨ k = 7 := by omega
    rcases hk8 with rfl | rfl | rfl | rfl | rfl | rfl | rfl | rfl <;> simp [StepSame, refStep, findV, vw, wordBits, startsB, endsB, hD, hs]
  · rw [hD] at hrem
    have z := zF_full 8 0 p R hrem
    have hs : stepF bits before w row a c (p, false) = .fail := by
      simp [stepF, z, modeF]
    simp [StepSame, refStep, findV, vw, wordBits, startsB, endsB, hD, hs]
  · rw [hD] at hrem
    obtain ⟨z1, z2⟩ := zF_rem k 8 0 p R hrem hk
    rw [Nat.zero_add] at z1
    have hk8 : k = 0 ∨ k = 1 ∨ k = 2 ∨ k = 3 ∨ k = 4 ∨ k = 5 ∨ k = 6 ∨ k = 7 := by omega
    have hnil : R = [] → rb bits (p + k + 1, false) = (false, (p + k + 1, true)) := by
      intro e
      subst e
      have := z2.len
      simp only [List.length_nil] at this
      unfold rb
      rw [if_neg (by simp only; omega)]
    have hcons : ∀ b R', R = b :: R' → rb bits (p + k + 1, false) = (b, (p + k + 2, false)) := by
      intro b R' e
      subst e
      exact (Rem.cons (f := false) z2).1
    rcases hk8 with rfl | rfl | rfl | rfl | rfl | rfl | rfl | rfl
    · simp only [StepSame, refStep, stepF, z1]
      simp [findV, vw, wordBits, startsB, endsB, hD, modeF]
      generalize vertF before w row a c 0 = V
      rcases V with _ | ⟨r, a', c'⟩ <;> simp
    · cases R with
      | nil =>
        simp only [StepSame, refStep, stepF, z1, modeF, hnil rfl]
        simp [findV, vw, wordBits, startsB, endsB, hD]
        generalize vertF before w row a c (-1) = V
        rcases V with _ | ⟨r, a', c'⟩ <;> simp
      | cons b R =>
        simp only [StepSame, refStep, stepF, z1, modeF, hcons _ _ rfl]
        cases b
        · simp [findV, vw, wordBits, startsB, endsB, hD]
          generalize vertF before w row a c (-1) = V
          rcases V with _ | ⟨r, a', c'⟩ <;> simp
        · simp [findV, vw, wordBits, startsB, endsB, hD]
          generalize vertF before w row a c 1 = V
          rcases V with _ | ⟨r, a', c'⟩ <;> simp
    · have hfe : endsB bits p = false := by simp [startsB, endsB, hD]
      have hf : findV bits p 7 0 = none := by simp [findV, vw, wordBits, startsB, hD]
      have hs1 : startsB bits p [false, false, false, true] = false := by simp [startsB, hD]
      have hs2 : startsB bits p [false, false, true] = true := by simp [startsB, hD]
      have hl := hrem.len
      simp only [List.length_append, List.length_replicate, List.length_cons] at hl
      have h1 : refStep bits before w row a c p = refHor bits w row a c (p + 3) := by
        unfold refStep refHor
        rw [hf, hs1, hs2]
        simp
        all_goals rfl
      have h2 : stepF bits before w row a c (p, false) = progHor bits w row a c (p + 3) := by
        unfold stepF progHor
        rw [z1]
        simp only [modeF]
        simp
        cases horF bits w row a c (p + 3, false) with
        | none => rfl
        | some t => rfl
      have h3 := hor_same (bits := bits) (row := row) (a := a) (c := c) hw hw' (p := p + 3) (by omega)
      simp only [StepSame]
      rw [h1, h2, hfe]
      revert h3
      cases refHor bits w row a c (p + 3) with
      | none => intro h3; rw [if_neg (by simp)]; exact h3
      | some t => obtain ⟨r, a', c', p'⟩ := t; intro h3; exact ⟨h3, rfl⟩
    · have hfe : endsB bits p = false := by simp [startsB, endsB, hD]
      have hf : findV bits p 7 0 = none := by simp [findV, vw, wordBits, startsB, hD]
      have hs1 : startsB bits p [false, false, false, true] = true := by simp [startsB, hD]
      have hs2 : startsB bits p [false, false, true] = false := by simp [startsB, hD]
      simp only [StepSame, refStep, stepF, z1, modeF, hf, hs1, hs2, hfe, passF]
      by_cases hd : encD before w a c < w
      · simp [hd, show ¬ w ≤ encD before w a c by omega]
      · simp [hd, show w ≤ encD before w a c by omega]
    · cases R with
      | nil =>
        simp only [StepSame, refStep, stepF, z1, modeF, hnil rfl]
        simp [findV, vw, wordBits, startsB, endsB, hD]
        generalize vertF before w row a c (-2) = V
        rcases V with _ | ⟨r, a', c'⟩ <;> simp
      | cons b R =>
        simp only [StepSame, refStep, stepF, z1, modeF, hcons _ _ rfl]
        cases b
        · simp [findV, vw, wordBits, startsB, endsB, hD]
          generalize vertF before w row a c (-2) = V
          rcases V with _ | ⟨r, a', c'⟩ <;> simp
        · simp [findV, vw, wordBits, startsB, endsB, hD]
          generalize vertF before w row a c 2 = V
          rcases V with _ | ⟨r, a', c'⟩ <;> simp
    · cases R with
      | nil =>
        simp only [StepSame, refStep, stepF, z1, modeF, hnil rfl]
        simp [findV, vw, wordBits, startsB, endsB, hD]
        generalize vertF before w row a c (-3) = V
        rcases V with _ | ⟨r, a', c'⟩ <;> simp
      | cons b R =>
        simp only [StepSame, refStep, stepF, z1, modeF, hcons _ _ rfl]
        cases b
        · simp [findV, vw, wordBits, startsB, endsB, hD]
          generalize vertF before w row a c (-3) = V
          rcases V with _ | ⟨r, a', c'⟩ <;> simp
        · simp [findV, vw, wordBits, startsB, endsB, hD]
          generalize vertF before w row a c 3 = V
          rcases V with _ | ⟨r, a', c'⟩ <;> simp
    · simp only [StepSame, refStep, stepF, z1, modeF]
      simp [findV, vw, wordBits, startsB, endsB, hD]
    · simp only [StepSame, refStep, stepF, z1, modeF]
      simp [findV, vw, wordBits, startsB, endsB, hD]

/-! Rows, and all of them. -/
theorem row_same (hw : 1 ≤ w) (hw' : w ≤ 128) : ∀ (k : Nat) (row : List Bool) (a : Int) (c : Bool) (p : Nat), -1 ≤ a → p ≤ bits.length → (a < 0 → endsB bits p = false) →
    (refRow bits before w k row a c p = none → decRowF bits before w k row a c (p, false) = .fail) ∧
    (∀ r p', refRow bits before w k row a c p = some (r, p') → ∃ a' c', decRowF bits before w k row a c (p, false) = .go r a' c' (p', false))
  | 0, row, a, c, p, _, _, _ => ⟨fun _ => rfl, fun r p' h => by cases h⟩
  | k + 1, row, a, c, p, ha, hp, he => by
    simp only [refRow, decRowF]
    by_cases haw : a < w
    · rw [if_pos haw, if_pos haw]
      have h1 := step_same (bits := bits) (before := before) (row := row) (c := c) ha haw hw hw' hp
      unfold StepSame at h1
      cases hs : refStep bits before w row a c p with
      | none =>
        rw [hs] at h1
        simp only at h1
        rw [if_neg (fun h => by rw [he h.1] at h; simp at h)] at h1
        rw [h1]
        exact ⟨fun _ => rfl, fun r p' h => by cases h⟩
      | some t =>
        obtain ⟨r, a', c', p'⟩ := t
        rw [hs] at h1
        simp only at h1 ⊢
        rw [h1.1]
        obtain ⟨s1, s2, s3, s4, s5⟩ := refStep_some ha haw hw hp hs
        exact row_same hw hw' k r a' c' p' (by omega) s3 (fun h => by omega)
    · rw [if_neg haw, if_neg haw]
      refine ⟨fun h => (by cases h), fun r p' h => ?_⟩
      simp only [Option.some.injEq, Prod.mk.injEq] at h
      obtain ⟨rfl, rfl⟩ := h
      exact ⟨a, c, rfl⟩

/-- A row's first pixels. -/
def DR.tk (n : Nat) : DR → DR
  | .go row a x p => .go (row.take n) a x p
  | d => d

theorem fillN_take (x : Bool) (n : Nat) : ∀ (k : Nat) (row : List Bool) (i : Nat), fillN x k (row.take n) i = (fillN x k row i).take n
  | 0, row, i => rfl
  | k + 1, row, i => by rw [fillN, fillN, ← List.take_set, fillN_take x n k]
theorem fillL_take (x : Bool) (n : Nat) (row : List Bool) (i j : Int) : fillL (row.take n) x i j = (fillL row x i j).take n := fillN_take _ _ _ _ _

theorem encB_congr {n : Nat} {b b' : List Bool} (hb : SameTo n b b') (a : Int) (c : Bool) : encB b n a c = encB b' n a c := by
  unfold encB
  refine firstZ_congr (by omega) (by omega) (fun j h0 h1 => ?_)
  unfold edgeP
  rw [hb j h0 h1]
  by_cases h : j > 0
  · rw [hb (j - 1) (by omega) (by omega)]
  · rw [decide_eq_false h, Bool.false_and, Bool.false_and]
theorem encD_congr {n : Nat} {b b' : List Bool} (hb : SameTo n b b') (a : Int) (c : Bool) : encD b n a c = encD b' n a c := by
  have hb0 : min (max (a + 1) 0) (n : Int) ≤ encB b' n a c := firstZ_ge'
  unfold encD
  rw [encB_congr hb]
  exact firstZ_congr (by omega) (by omega) (fun j h0 h1 => by rw [hb j h0 h1])

theorem vertF_take {n : Nat} {b b' : List Bool} (hb : SameTo n b b') (row : List Bool) (a : Int) (x : Bool) (sh : Int) : vertF b' n (row.take n) a x sh = (vertF b n row a x sh).map fun t => (t.1.take n, t.2) := by
  unfold vertF
  rw [← encB_congr hb, fillL_take]
  split <;> rfl
theorem passF_take {n : Nat} {b b' : List Bool} (hb : SameTo n b b') (row : List Bool) (a : Int) (x : Bool) : passF b' n (row.take n) a x = (passF b n row a x).map fun t => (t.1.take n, t.2) := by
  unfold passF
  rw [← encD_congr hb, fillL_take]
  split <;> rfl
theorem horF_take {n : Nat} (row : List Bool) (a : Int) (x : Bool) (p : Nat × Bool) : horF bits n (row.take n) a x p = (horF bits n row a x p).map fun t => (t.1.take n, t.2) := by
  unfold horF
  rw [fillL_take, fillL_take]
  split <;> rfl
theorem modeF_take {n m : Nat} {b b' : List Bool} (hb : SameTo n b b') (row : List Bool) (a : Int) (x : Bool) (p : Nat × Bool) :
    modeF bits b' n (row.take n) a x m p = ((modeF bits b n row a x m p).1.map (fun t => (t.1.take n, t.2)), (modeF bits b n row a x m p).2) := by
  unfold modeF
  split
  · rw [vertF_take hb]
  · rw [vertF_take hb]
  · rw [horF_take]
  · rw [passF_take hb]
  · rw [vertF_take hb]
  · rw [vertF_take hb]
  · rfl

theorem stepF_take {n : Nat} {b b' : List Bool} (hb : SameTo n b b') (row : List Bool) (a : Int) (x : Bool) (p : Nat × Bool) : stepF bits b' n (row.take n) a x p = (stepF bits b n row a x p).tk n := by
  unfold stepF
  rw [modeF_take hb]
  generalize modeF bits b n row a x (zF bits 8 0 p).1 (zF bits 8 0 p).2 = m
  obtain ⟨m1, m2⟩ := m
  split
  · rfl
  · split
    · rfl
    · cases m1 with
      | none => rfl
      | some t =>
        obtain ⟨r, a', x'⟩ := t
        simp only [Option.map_some]
        split <;> rfl

theorem decRowF_take {n : Nat} {b b' : List Bool} (hb : SameTo n b b') : ∀ (k : Nat) (row : List Bool) (a : Int) (x : Bool) (p : Nat × Bool), decRowF bits b' n k (row.take n) a x p = (decRowF bits b n k row a x p).tk n
  | 0, row, a, x, p => rfl
  | k + 1, row, a, x, p => by
    simp only [decRowF]
    rw [stepF_take hb]
    split
    · cases stepF bits b n row a x p with
      | fail => rfl
      | fin q => rfl
      | go r a' x' q => exact decRowF_take hb k r a' x' q
    · rfl

theorem rowOut_take (n : Nat) (row : List Bool) : rowOut n (row.take n) = rowOut n row := by
  simp only [rowOut]
  apply List.map_congr_left
  intro i hi
  by_cases h : i < n
  · simp [h, List.getElem?_take]
  · simp [h]
theorem sameTo_take (n : Nat) (row : List Bool) : SameTo n row (row.take n) := by
  intro j h0 h1
  unfold bit
  rw [List.getD_eq_getElem?_getD, List.getD_eq_getElem?_getD, List.getElem?_take, if_pos (by omega)]

theorem all_same {n : Nat} (hw : 1 ≤ n) (hw' : n ≤ 128) : ∀ (k : Nat) (b b' : List Bool) (p : Nat), SameTo n b b' → p ≤ bits.length →
    (refAll bits n k b' p = none → decAll bits n k b (p, false) = none) ∧
    (∀ rs q, refAll bits n k b' p = some (rs, q) → ∃ rs', decAll bits n k b (p, false) = some (rs', (q + 8, false)) ∧ rs'.length = rs.length ∧ rs'.flatMap (rowOut n) = rs.flatMap (rowOut n))
  | 0, b, b', p, _, _ => ⟨fun _ => rfl, fun rs q h => by cases h⟩
  | k + 1, b, b', p, hb, hp => by
    have hwt : white.take n = List.replicate n false := by
      rw [white, List.take_replicate, Nat.min_eq_left hw']
    have htk := decRowF_take (bits := bits) hb 200 white (-1) false (p, false)
    rw [hwt] at htk
    simp only [refAll, decAll]
    by_cases he : endsB bits p = true
    · have he' := he
      unfold endsB at he'
      rw [if_pos he']
      refine ⟨fun h => (by cases h), fun rs q h => ?_⟩
      simp only [Option.some.injEq, Prod.mk.injEq] at h
      obtain ⟨rfl, rfl⟩ := h
      have h1 := step_same (bits := bits) (before := b) (row := white) (a := -1) (c := false) (w := n) (by omega) (by omega) (by omega) (by omega) hp
      unfold StepSame at h1
      cases hs : refStep bits b n white (-1) false p with
      | none =>
        rw [hs] at h1
        simp only at h1
        rw [if_pos ⟨by omega, he⟩] at h1
        refine ⟨[], ?_, rfl, rfl⟩
        have : decRowF bits b n 200 white (-1) false (p, false) = .fin (p + 8, false) := by
          rw [show (200 : Nat) = 199 + 1 from rfl, decRowF, if_pos (by omega), h1]
        rw [this]
      | some t =>
        obtain ⟨r, a', c', p'⟩ := t
        rw [hs] at h1
        rw [h1.2] at he
        cases he
    · have he' := he
      unfold endsB at he'
      rw [if_neg he']
      have h1 := row_same (bits := bits) (before := b') (w := (n : Int)) (by omega) (by omega) 200 (List.replicate n false) (-1) false p (by omega) hp (fun _ => by simpa using he)
      cases hR : refRow bits b' n 200 (List.replicate n false) (-1) false p with
      | none =>
        have h2 := h1.1 hR
        rw [htk] at h2
        refine ⟨fun _ => ?_, fun rs q h => by cases h⟩
        cases hd : decRowF bits b n 200 white (-1) false (p, false) with
        | fail => rfl
        | fin q => rw [hd] at h2; cases h2
        | go r a' x' q => rw [hd] at h2; cases h2
      | some t =>
        obtain ⟨r, p'⟩ := t
        obtain ⟨a', c', h2⟩ := h1.2 r p' hR
        rw [htk] at h2
        obtain ⟨r1, r2, r3, r4⟩ := refRow_some (by omega) _ _ _ _ _ _ _ (by omega) hp hR
        cases hd : decRowF bits b n 200 white (-1) false (p, false) with
        | fail => rw [hd] at h2; cases h2
        | fin q => rw [hd] at h2; cases h2
        | go r0 a0 x0 q0 =>
          rw [hd] at h2
          simp only [DR.tk, DR.go.injEq] at h2
          obtain ⟨e1, e2, e3, e4⟩ := h2
          subst e4
          have hb2 : SameTo n r0 r := by rw [← e1]; exact sameTo_take n r0
          obtain ⟨i1, i2⟩ := all_same hw hw' k r0 r p' hb2 r4
          simp only
          refine ⟨fun h => ?_, fun rs q h => ?_⟩
          · cases hA : refAll bits n k r p' with
            | none => rw [i1 hA]; rfl
            | some t => rw [hA] at h; cases h
          · cases hA : refAll bits n k r p' with
            | none => rw [hA] at h; cases h
            | some t =>
              obtain ⟨rs1, q1⟩ := t
              rw [hA] at h
              simp only [Option.map_some, Option.some.injEq, Prod.mk.injEq] at h
              obtain ⟨rfl, rfl⟩ := h
              obtain ⟨rs', k1, k2, k3⟩ := i2 rs1 q1 hA
              refine ⟨r0 :: rs', by rw [k1]; rfl, by simp [k2], ?_⟩
              rw [List.flatMap_cons, List.flatMap_cons, k3, ← e1, rowOut_take]

theorem refSpec_eq (s : List UInt8) (w : Int) : refSpec s w = decSpec s w := by
  unfold refSpec decSpec
  split
  · rfl
  · split
    · rfl
    · obtain ⟨n, rfl⟩ := Int.eq_ofNat_of_zero_le (show 0 ≤ w by omega)
      simp only [Int.toNat_natCast]
      obtain ⟨h1, h2⟩ := all_same (bits := strBits s) (n := n) (by omega) (by omega) (8 * s.length + 1) white (List.replicate n false) 0 (sameTo_white n) (by omega)
      cases hA : refAll (strBits s) n (8 * s.length + 1) (List.replicate n false) 0 with
      | none => rw [h1 hA]
      | some t =>
        obtain ⟨rs, q⟩ := t
        obtain ⟨rs', k1, k2, k3⟩ := h2 rs q hA
        rw [k1]
        simp only
        rw [k2, k3]
        all_goals rfl

end Go.Ev
