/- Reals as decimals: what both Prints answer; the reference's Print. -/
import Derived.Test.YtodphnhkhnebcaaDoorP09
import Derived.Test.YtodphnhkhnebcaaDoorP08
import Derived.Test.YtodphnhkhnebcaaDoorP06
import Derived.Test.YtodphnhkhnebcaaDoorP07
import Derived.Stop.LaidErr
import Derived.Lib.LaidTab
import Derived.SizedLaws
namespace Go.Ev
open Go
set_option linter.unusedSimpArgs false
set_option linter.unusedSectionVars false
set_option linter.unusedVariables false

variable {T : Tab} {st : St}

/-- The digits behind the point. -/
def fracS : Nat → Nat → List UInt8
  | 0, _ => []
  | k + 1, f => UInt8.ofNat (48 + f * 10 / 65536) :: (if f * 10 % 65536 = 0 then [] else fracS k (f * 10 % 65536))

def printS (n : Int) : List UInt8 := (if n < 0 then [45] else []) ++ (Lib.decDigits (n.natAbs / 65536) ++ (46 :: fracS 17 (n.natAbs % 65536)))

theorem fracS_len : ∀ k f, (fracS k f).length ≤ k
  | 0, _ => by simp [fracS]
  | k + 1, f => by
    have := fracS_len k (f * 10 % 65536)
    simp only [fracS, List.length_cons]
    split <;> simp <;> omega

theorem print_l0 (st0 : St) : ∀ (n : Nat) (D : List UInt8) (e : Env) (st1 : St), Ext st0 st1 → D.length + n ≤ 4294967296 → ∀ a o : AV, eget e 0 = a → eget e 3 = o → eget e 4 = .int .i64 (n : Int) → eget e 5 = .str D →
    Res (run T (.loop B.chaseref01_Print_l0) e st1) fun x e' s' => x = .exit 0 ∧ Ext st0 s' ∧ eget e' 0 = a ∧ eget e' 3 = o ∧ eget e' 5 = .str (if 0 < n ∨ D = [] then Lib.decDigits n ++ D else D) := by
  intro n
  induction n using Nat.strongRecOn with
  | _ n ih =>
    intro D e st1 hx hl a o g0 g3 g4 g5
    rw [run_loop]
    by_cases hc : 0 < n ∨ D = []
    · obtain ⟨hr, hq⟩ := div10 n
      obtain ⟨w1, w2⟩ := digW (Nat.mod_lt n (show 0 < 10 by omega))
      have hdig : Lib.decDigits n = if n < 10 then [UInt8.ofNat (48 + n % 10)] else Lib.decDigits (n / 10) ++ [UInt8.ofNat (48 + n % 10)] := by
        by_cases h : n < 10
        · rw [if_pos h, decDigits_small h, Nat.mod_eq_of_lt h]
        · rw [if_neg h, decDigits_big h]
      have wq : IntKind.i64.wrap ((n / 10 : Nat) : Int) = ((n / 10 : Nat) : Int) := wrap64' (by omega) (by omega)
      have hlt : n / 10 < n ∨ n = 0 := by omega
      have h10 : n < 10 ↔ n / 10 = 0 := by omega
      have hle : n / 10 ≤ n := by omega
      generalize n / 10 = q at *
      generalize n % 10 = r at *
      generalize UInt8.ofNat (48 + r) = c at *
      have x1 := hx.trans (Ext.new hx.wf (.cells 5 false [.int .u8 (c.toNat : Int)]))
      have hd : (if 0 < n ∨ D = [] then Lib.decDigits n ++ D else D) = if 0 < q ∨ (c :: D) = [] then Lib.decDigits q ++ (c :: D) else c :: D := by
        rw [if_pos hc, hdig]
        by_cases hq0 : q = 0
        · rw [if_pos (h10.2 hq0), if_neg (by simp [hq0])]; rfl
        · rw [if_neg (fun h => hq0 (h10.1 h)), if_pos (.inl (by omega))]; simp
      obtain ⟨OUT, hO⟩ : ∃ OUT, OUT = if 0 < q ∨ (c :: D) = [] then Lib.decDigits q ++ (c :: D) else c :: D := ⟨_, rfl⟩
      rw [hd, ← hO]
      have fin : ∀ e' s', Ext st0 s' → eget e' 0 = a → eget e' 3 = o → eget e' 4 = .int .i64 (q : Int) → eget e' 5 = .str (c :: D) →
          Res (run T (.loop B.chaseref01_Print_l0) e' s') fun x e' s' => x = .exit 0 ∧ Ext st0 s' ∧ eget e' 0 = a ∧ eget e' 3 = o ∧ eget e' 5 = .str OUT := by
        intro e' s' hx' k0 k3 k4 k5
        rw [hO]
        rcases hlt with hlt | hlt
        · exact ih q hlt (c :: D) e' s' hx' (by simp only [List.length_cons]; omega) a o k0 k3 k4 k5
        · have : q = 0 := by omega
          subst this
          rw [run_loop]
          simp [B.chaseref01_Print_l0, go_sem, k0, k3, k4, k5, hx', seq8_eq]
      by_cases hn : 0 < n
      · have hn' : (0 : Int) < n := by omega
        simp [B.chaseref01_Print_l0, go_sem, NO.run, RO.run, g0, g3, g4, g5, hn, hn', hr, hq, w1, w2, wq, rdCells, hget_cons, toBytes]
        rw [if_pos (by omega)]
        simp [go_sem, g0, g3, g4, g5, hq, wq]
        exact fin _ _ x1 (by simp [go_sem]) (by simp [go_sem]) (by simp [go_sem]) (by simp [go_sem])
      · have hD : D = [] := by rcases hc with h | h; exact absurd h hn; exact h
        subst hD
        have hn' : ¬ (0 : Int) < n := by omega
        simp [B.chaseref01_Print_l0, go_sem, NO.run, RO.run, g0, g3, g4, g5, hn, hn', hr, hq, w1, w2, wq, rdCells, hget_cons, toBytes, seq8_eq]
        exact fin _ _ x1 (by simp [go_sem]) (by simp [go_sem]) (by simp [go_sem]) (by simp [go_sem])
    · rw [if_neg hc]
      have hn' : ¬ (0 : Int) < n := by omega
      have hn : ¬ 0 < n := by omega
      have hD : D.isEmpty = false := by cases D with | nil => simp at hc | cons => rfl
      simp [B.chaseref01_Print_l0, go_sem, g0, g3, g4, g5, hn, hn', hx, seq8_eq, hD]

theorem frac_dvd {k f : Nat} (hk : 1 ≤ k) (hk2 : k ≤ 16) (hd : 2 ^ (17 - (k + 1)) ∣ f) : 2 ^ (17 - k) ∣ f * 10 % 65536 := by
  obtain ⟨m, hm⟩ := hd
  have e1 : (2 : Nat) ^ (17 - k) = 2 ^ (17 - (k + 1)) * 2 := by rw [← Nat.pow_succ]; congr 1; omega
  have h1 : 2 ^ (17 - k) ∣ f * 10 := ⟨m * 5, by rw [e1, hm]; rw [Nat.mul_assoc, Nat.mul_assoc, ← Nat.mul_assoc 2 m 5, Nat.mul_comm 2 m, Nat.mul_assoc m 2 5]⟩
  have h2 : 2 ^ (17 - k) ∣ 65536 := ⟨2 ^ (k - 1), by rw [← Nat.pow_add, show 17 - k + (k - 1) = 16 by omega]⟩
  exact (Nat.dvd_mod_iff h2).2 h1
theorem frac_nums {f : Nat} (hf : f < 65536) : IntKind.i64.wrap ((f : Int) * 10) = ((f * 10 : Nat) : Int) ∧ ((f * 10 : Nat) : Int).tdiv 65536 = ((f * 10 / 65536 : Nat) : Int) ∧ ((f * 10 : Nat) : Int).tmod 65536 = ((f * 10 % 65536 : Nat) : Int) ∧
    IntKind.i64.wrap ((f * 10 / 65536 : Nat) : Int) = ((f * 10 / 65536 : Nat) : Int) ∧ f * 10 / 65536 < 10 ∧ f * 10 % 65536 < 65536 := by
  refine ⟨by rw [wrap64' (by omega) (by omega)]; omega, ?_, ?_, wrap64' (by omega) (by omega), by omega, by omega⟩
  · rw [Int.tdiv_eq_ediv_of_nonneg (by omega)]; omega
  · rw [Int.tmod_eq_emod_of_nonneg (by omega)]; omega

theorem print_l1 (st0 : St) : ∀ (k f i : Nat) (out : List UInt8) (e : Env) (st1 : St), i + (k + 1) = 17 → f < 65536 → 2 ^ (17 - (k + 1)) ∣ f → (i = 0 ∨ 0 < f) → out.length + k ≤ 1000 → Ext st0 st1 → eget e 3 = .str out → eget e 6 = .int .i64 (f : Int) → eget e 7 = .int .i64 (i : Int) →
    Res (run T (.loop B.chaseref01_Print_l1) e st1) fun x e' s' => x = .exit 2 ∧ Ext st0 s' ∧ eget e' 3 = .str (out ++ fracS (k + 1) f) := by
  intro k
  induction k with
  | zero =>
    intro f i out e st1 hi hf hd hgo hl hx g3 g6 g7
    obtain ⟨m, hm⟩ := hd
    have hf0 : f = 0 := by
      rw [show (2 : Nat) ^ (17 - (0 + 1)) = 65536 from rfl] at hm; omega
    exfalso
    omega
  | succ k ih =>
    intro f i out e st1 hi hf hd hgo hl hx g3 g6 g7
    obtain ⟨a1, a2, a3, a4, a5, a6⟩ := frac_nums hf
    obtain ⟨w1, w2⟩ := digW a5
    have hdv := frac_dvd (k := k + 1) (by omega) (by omega) hd
    have hfr : fracS (k + 1 + 1) f = UInt8.ofNat (48 + f * 10 / 65536) :: (if f * 10 % 65536 = 0 then [] else fracS (k + 1) (f * 10 % 65536)) := rfl
    rw [hfr]
    generalize f * 10 / 65536 = d at *
    generalize f * 10 % 65536 = r at *
    generalize f * 10 = t at *
    generalize UInt8.ofNat (48 + d) = c at *
    have x1 := hx.trans (Ext.new hx.wf (.cells 5 false [.int .u8 (c.toNat : Int)]))
    have e1 : IntKind.i64.wrap ((i : Int) + 1) = ((i + 1 : Nat) : Int) := wrap64' (by omega) (by omega)
    obtain ⟨OUT, hO⟩ : ∃ OUT, OUT = out ++ c :: (if r = 0 then [] else fracS (k + 1) r) := ⟨_, rfl⟩
    rw [← hO]
    have fin : ∀ e' s', Ext st0 s' → eget e' 3 = .str (out ++ [c]) → eget e' 6 = .int .i64 (r : Int) → eget e' 7 = .int .i64 ((i + 1 : Nat) : Int) →
        Res (run T (.loop B.chaseref01_Print_l1) e' s') fun x e' s' => x = .exit 2 ∧ Ext st0 s' ∧ eget e' 3 = .str OUT := by
      intro e' s' hx' k3 k6 k7
      by_cases hr : r = 0
      · subst hr
        have hO' : OUT = out ++ [c] := by rw [hO]; simp
        rw [run_loop]
        have hne : ¬ ((i + 1 : Nat) : Int) = 0 := by omega
        have hne' : ¬ (i + 1 : Nat) = 0 := by omega
        generalize i + 1 = j at *
        simp [B.chaseref01_Print_l1, go_sem, k3, k6, k7, hx', hne, hne', hO']
      · have hO' : OUT = (out ++ [c]) ++ fracS (k + 1) r := by rw [hO, if_neg hr]; simp
        rw [hO']
        exact ih r (i + 1) (out ++ [c]) e' s' (by omega) a6 hdv (.inr (by omega)) (by simp; omega) hx' k3 k6 k7
    rw [run_loop]
    have hlen : out.length + 1 < 4611686018427387904 := by omega
    by_cases hi0 : i = 0
    · subst hi0
      simp [B.chaseref01_Print_l1, go_sem, NO.run, RO.run, g3, g6, g7, a1, a2, a3, a4, w1, w2, rdCells, hget_cons, toBytes, hlen]
      exact fin _ _ x1 (by simp [go_sem]) (by simp [go_sem, a1, a3]) (by simp [go_sem]; rfl)
    · have hf0 : 0 < (f : Int) := by omega
      have hi0' : ¬ (i : Int) = 0 := by omega
      simp [B.chaseref01_Print_l1, go_sem, NO.run, RO.run, g3, g6, g7, a1, a2, a3, a4, w1, w2, rdCells, hget_cons, toBytes, hf0, hi0, hi0', show 0 < f by omega, hlen, e1]
      exact fin _ _ x1 (by simp [go_sem]) (by simp [go_sem, a1, a3]) (by simp [go_sem])

theorem printS_pos {u : Nat} : printS (u : Int) = Lib.decDigits (u / 65536) ++ (46 :: fracS 17 (u % 65536)) := by
  unfold printS; rw [if_neg (by omega)]; simp
theorem printS_neg {u : Nat} (h : 0 < u) : printS (-(u : Int)) = 45 :: (Lib.decDigits (u / 65536) ++ (46 :: fracS 17 (u % 65536))) := by
  unfold printS; rw [if_pos (by omega)]; simp

theorem div65536 (u : Nat) : (u : Int).tdiv 65536 = ((u / 65536 : Nat) : Int) ∧ (u : Int).tmod 65536 = ((u % 65536 : Nat) : Int) := by
  refine ⟨?_, ?_⟩
  · rw [Int.tdiv_eq_ediv_of_nonneg (by omega)]; omega
  · rw [Int.tmod_eq_emod_of_nonneg (by omega)]; omega

theorem refPrint_tells (H : B.H_chaseref01_Print T) (hwf : st.Wf) {n : Int} (h0 : -4294967296 ≤ n) (h1 : n ≤ 4294967296) : Tells T st (.fn 135 [] []) [.int .i64 n] (.str (printS n)) := by
  refine tells_of H.e H.f rfl ?_
  by_cases hn : n < 0
  · obtain ⟨u, hu⟩ : ∃ u : Nat, n = -(u : Int) := ⟨n.natAbs, by omega⟩
    subst hu
    have e1 : IntKind.i64.wrap (u : Int) = u := wrap64' (by omega) (by omega)
    rw [printS_neg (by omega)]
    obtain ⟨a1, a2⟩ := div65536 u
    have hq : u / 65536 ≤ 65536 := by omega
    have hr : u % 65536 < 65536 := by omega
    have wq : IntKind.i64.wrap ((u / 65536 : Nat) : Int) = ((u / 65536 : Nat) : Int) := wrap64' (by omega) (by omega)
    generalize u / 65536 = q at *
    generalize u % 65536 = r at *
    simp [B.chaseref01_Print, go_sem, show 0 < u by omega, e1, a1, wq]
    refine (print_l0 st q [] _ st (.refl hwf) (by simp; omega) _ _ (by simp [go_sem]; rfl) (by simp [go_sem]; rfl) (by simp [go_sem]) (by simp [go_sem])).mono ?_
    rintro x e s1 ⟨rfl, x1, k0, k3, k5⟩
    have hl := decDigits_len10 (u := q) (by omega)
    simp at k5
    simp [go_sem, k0, k3, k5, a2]
    rw [if_pos (by omega)]
    simp [go_sem]
    rw [if_pos (by omega)]
    simp [go_sem, k0, a2]
    refine (print_l1 st 16 r 0 (45 :: (Lib.decDigits q ++ [46])) _ s1 rfl hr (by simp) (.inl rfl) (by simp; omega) x1 (by simp [go_sem]) (by simp [go_sem]) (by simp [go_sem])).mono ?_
    rintro x e s2 ⟨rfl, x2, k3⟩
    simp [go_sem, k3, x2]
  · obtain ⟨u, rfl⟩ := Int.eq_ofNat_of_zero_le (show 0 ≤ n by omega)
    rw [printS_pos]
    obtain ⟨a1, a2⟩ := div65536 u
    have hq : u / 65536 ≤ 65536 := by omega
    have hr : u % 65536 < 65536 := by omega
    have wq : IntKind.i64.wrap ((u / 65536 : Nat) : Int) = ((u / 65536 : Nat) : Int) := wrap64' (by omega) (by omega)
    have hn' : ¬ (u : Int) < 0 := by omega
    generalize u / 65536 = q at *
    generalize u % 65536 = r at *
    simp [B.chaseref01_Print, go_sem, hn', a1, wq]
    refine (print_l0 st q [] _ st (.refl hwf) (by simp; omega) _ _ (by simp [go_sem]; rfl) (by simp [go_sem]; rfl) (by simp [go_sem]) (by simp [go_sem])).mono ?_
    rintro x e s1 ⟨rfl, x1, k0, k3, k5⟩
    have hl := decDigits_len10 (u := q) (by omega)
    simp at k5
    simp [go_sem, k0, k3, k5, a2]
    rw [if_pos (by omega)]
    simp [go_sem]
    rw [if_pos (by omega)]
    simp [go_sem, k0, a2]
    refine (print_l1 st 16 r 0 (Lib.decDigits q ++ [46]) _ s1 rfl hr (by simp) (.inl rfl) (by simp; omega) x1 (by simp [go_sem]) (by simp [go_sem]) (by simp [go_sem])).mono ?_
    rintro x e s2 ⟨rfl, x2, k3⟩
    simp [go_sem, k3, x2]

end Go.Ev

/- The canonical texts: the reference's Text. -/
namespace Go.Ev
open Go
set_option linter.unusedSimpArgs false
set_option linter.unusedSectionVars false
set_option linter.unusedVariables false

variable {T : Tab} {st : St}

def textS (k n : Int) (t : List UInt8) : List UInt8 :=
  if k = 1 then Lib.itoa n else if k = 2 then printS n else if k = 4 then 47 :: t else if k = 5 then 47 :: 47 :: t else if k = 6 then quoteS t else if k = 7 then [123] else if k = 8 then [125] else t

theorem right_bound {k n : Int} {t : List UInt8} (h : rightT k n t = true) : k = 1 ∨ k = 2 → -4294967296 ≤ n ∧ n ≤ 4294967296 := by
  rintro (rfl | rfl)
  · simp [rightT] at h; omega
  · simp [rightT] at h; omega

theorem refText_tells (H : B.H_chaseref03_Text T) (hwf : st.Wf) {k n : Int} {t : List UInt8} (hs : t.length < 1000000000000) (hb : k = 1 ∨ k = 2 → -4294967296 ≤ n ∧ n ≤ 4294967296) : Tells T st (.fn 130 [] []) [.agg [.int .i64 k, .int .i64 n, .str t]] (.str (textS k n t)) := by
  refine tells_of H.e H.f rfl ?_
  have hx := Ext.new hwf (.cells 134 true [.int .i64 k, .int .i64 n, .str t])
  have hl1 : 1 + t.length < 4611686018427387904 := by omega
  have hl2 : 2 + t.length < 4611686018427387904 := by omega
  by_cases h1 : k = 1
  · subst h1
    obtain ⟨b0, b1⟩ := hb (.inl rfl)
    simp [B.chaseref03_Text, go_sem, NO.run, WO.run, RO.run, rdCell, hget_cons]
    refine (decimal_tells H.chaseref03_decimal hx.wf b0 b1).use fun s1 x1 => ?_
    simp [go_sem, textS, hx.trans x1]
  by_cases h2 : k = 2
  · subst h2
    obtain ⟨b0, b1⟩ := hb (.inr rfl)
    simp [B.chaseref03_Text, go_sem, NO.run, WO.run, RO.run, rdCell, hget_cons]
    refine (refPrint_tells H.chaseref01_Print hx.wf b0 b1).use fun s1 x1 => ?_
    simp [go_sem, textS, hx.trans x1]
  by_cases h4 : k = 4
  · subst h4
    simp [B.chaseref03_Text, go_sem, NO.run, WO.run, RO.run, rdCell, hget_cons, hl1, textS, hx]
  by_cases h5 : k = 5
  · subst h5
    simp [B.chaseref03_Text, go_sem, NO.run, WO.run, RO.run, rdCell, hget_cons, hl2, textS, hx]
  by_cases h6 : k = 6
  · subst h6
    simp [B.chaseref03_Text, go_sem, NO.run, WO.run, RO.run, rdCell, hget_cons]
    refine (refQuote_tells H.chaseref03_Quote hx.wf hs).use fun s1 x1 => ?_
    simp [go_sem, textS, hx.trans x1]
  by_cases h7 : k = 7
  · subst h7
    simp [B.chaseref03_Text, go_sem, NO.run, WO.run, RO.run, rdCell, hget_cons, textS, hx]
  by_cases h8 : k = 8
  · subst h8
    simp [B.chaseref03_Text, go_sem, NO.run, WO.run, RO.run, rdCell, hget_cons, textS, hx]
  simp [B.chaseref03_Text, go_sem, NO.run, WO.run, RO.run, rdCell, hget_cons, textS, h1, h2, h4, h5, h6, h7, h8, hx]

end Go.Ev

/- real.Print: the digits ahead of the point are yielded one by one. -/
namespace Go.Ev
open Go
set_option linter.unusedSimpArgs false
set_option linter.unusedSectionVars false
set_option linter.unusedVariables false

variable {T : Tab} {st : St}

/-- An octet is added to a Builder: what else is there stays. -/
theorem writeByte_frm (H : B.H_strings_Builder_WriteByte T) {st0 : St} (hx : Ext st0 st) {q : Nat} {l : List UInt8} (c : UInt8) {n : Int} (hn : n = (c.toNat : Int)) (b : Bd st0 st q l) (hl : l.length < 35184372088831) :
    CRes (call T (.fn 91 [] []) [.ptr q 0, .int .u8 n] st) fun _ s' => (Ext st0 s' ∧ Bd st0 s' q (l ++ [c])) ∧ ∀ m o, m ≠ q → hget st.h m = some o → (∀ ty, o ≠ .cells ty false (u8s l)) → o ≠ .buf 5 1 (u8s l) → hget s'.h m = some o := by
  subst hn
  obtain ⟨h1, a, v, h2, h3, h4, h5⟩ := b
  refine call_res H.e H.f rfl ?_
  simp [B.strings_Builder_WriteByte, go_sem]
  refine (copyCheck_res H.strings_Builder_copyCheck hx.wf h2 h3).mono ?_
  rintro _ s1 ⟨f1, g1⟩
  have x1 : Ext st0 s1 := hx.frm f1 (by simpa using h1)
  have g4 := h4.frm f1 hx.wf (by intro n hn h; simp at h; subst h; exact h5 hn)
  have hr : rdCell s1.h q 1 = some v := by simp [rdCell, g1]
  simp [go_sem, RO.run, NO.run, hr, reps]
  refine (g4.push x1.nx x1.wf (k := 1) (by omega) (c := c) hl).mono ?_
  rintro v2 s2 ⟨o2, f2⟩
  have x2 := x1.frm f2 h4.ge
  have g2 : hget s2.h q = some (.cells 84 false [.ptr q 0, v]) := f2.get x1.wf g1 h5
  have hw2 : wrCells s2.h q 1 [v2] = some (hset s2.h q (.cells 84 false [.ptr q 0, v2])) := wr_cells g2 o2.sc (by simp)
  have f3 := Frm.set x2.wf g2 (o := .cells 84 false [.ptr q 0, v2])
  have hap := o2.apart g2 (x := .ptr q 0) (by simp) (by simp)
  have g3 := hget_hset_self (o := .cells 84 false [.ptr q 0, v2]) g2
  simp [go_sem, WO.run, o2.acells, hw2]
  have x3 : Ext st0 ⟨hset s2.h q (.cells 84 false [.ptr q 0, v2]), s2.nx⟩ := x2.frm f3 (by simpa using h1)
  have o3 : Grow st0 ⟨hset s2.h q (.cells 84 false [.ptr q 0, v2]), s2.nx⟩ v2 (l ++ [c]) := o2.frm f3 x2.wf (by intro n hn h; simp at h; subst h; exact hap hn)
  have x4 : Ext st0 ⟨Go.Ev.dropLoc st.nx (hset s2.h q (.cells 84 false [.ptr q 0, v2])), s2.nx⟩ := x3.dropGe hx.nx
  refine ⟨⟨x4, h1, _, v2, hget_dropLoc_keep x3.wf g3 rfl, .inr rfl, o3.dropLoc x3.wf, hap⟩, ?_⟩
  intro m o hmq ho hc hb
  have hm : m ∉ v.nms := by
    intro hm
    rcases h4.nms hm with ⟨ty, k⟩ | k
    · rw [ho] at k; cases k; exact hc ty rfl
    · rw [ho] at k; cases k; exact hb rfl
  have k1 := f1.get hx.wf ho (by simpa using hmq)
  have k2 := f2.get x1.wf k1 hm
  have k3 := f3.get (st := ⟨_, _⟩) x2.wf k2 (by simpa using hmq)
  show hget (Go.Ev.dropLoc st.nx _) m = _
  rw [hget_dropLoc_lt (hx.wf.lt m o ho)]
  exact k3

theorem whole_call (H : B.H_real_whole T) (hwf : st.Wf) {n : Int} {Q : AV → St → Prop}
    (h : Q (.fn 139 [] [.ptr st.nx 0]) ⟨(st.nx, .cells 3 false [.int .i64 n]) :: st.h, st.nx + 1⟩) :
    CRes (call T (.fn 138 [] []) [.int .i64 n] st) Q := by
  refine call_res H.e H.f rfl ?_
  have hd : dropLoc st.nx ((st.nx, AObj.cells 3 false [.int .i64 n]) :: st.h) = (st.nx, AObj.cells 3 false [.int .i64 n]) :: st.h := by
    have : locNames st.nx ((st.nx, AObj.cells 3 false [.int .i64 n]) :: st.h) = [] := by
      simp only [locNames]
      exact locNames_nil fun n o ho => hwf.lt n o ho
    rw [dropLoc_eq, this, hdrop_nil]
  simp [B.real_whole, go_sem, NO.run, AV.nb, hd]
  exact h

/-- The digits from a place on. -/
def digsF (n : Nat) : Nat → List UInt8
  | 0 => [UInt8.ofNat (48 + n % 10)]
  | k + 1 => UInt8.ofNat (48 + n / 10 ^ (k + 1) % 10) :: digsF n k
theorem digsF_last (n : Nat) : ∀ k, digsF n (k + 1) = digsF (n / 10) k ++ [UInt8.ofNat (48 + n % 10)]
  | 0 => by simp [digsF]
  | k + 1 => by
    have := digsF_last n k
    rw [digsF, this, digsF, Nat.div_div_eq_div_mul, ← Nat.pow_succ']
    rfl
theorem digsF_dec : ∀ (k n : Nat), n < 10 ^ (k + 1) → (k = 0 ∨ 10 ^ k ≤ n) → digsF n k = Lib.decDigits n
  | 0, n, h, _ => by rw [decDigits_small (by simpa using h), digsF, Nat.mod_eq_of_lt (by simpa using h)]
  | k + 1, n, h, hk => by
    have h1 : 10 ^ (k + 1) ≤ n := by rcases hk with hk | hk; cases hk; exact hk
    have h2 : 1 ≤ 10 ^ k := Nat.pow_pos (by omega)
    rw [Nat.pow_succ] at h h1
    rw [digsF_last, decDigits_big (by omega), digsF_dec k (n / 10) (by rw [Nat.pow_succ] at h ⊢; omega) (.inr (by omega))]

theorem whole_l0 {n m : Nat} (hn : n ≤ 65536) (hg : hget st.h m = some (.cells 3 false [.int .i64 (n : Int)])) {y : AV} : ∀ (f j : Nat) (e : Env), j + f = 5 → (j = 0 ∨ 10 ^ j ≤ n) → eget e 0 = y → eget e 1 = .ptr m 0 → eget e 3 = .int .i64 ((10 ^ j : Nat) : Int) →
    Res (run T (.loop B.real_whole_1_l0) e st) fun x e' s' => x = .exit 0 ∧ s' = st ∧ eget e' 0 = y ∧ eget e' 1 = .ptr m 0 ∧ ∃ k, k ≤ 5 ∧ eget e' 3 = .int .i64 ((10 ^ k : Nat) : Int) ∧ n < 10 ^ (k + 1) ∧ (k = 0 ∨ 10 ^ k ≤ n) := by
  intro f
  induction f with
  | zero =>
    intro j e hj hjn g0 g1 g3
    have hj5 : j = 5 := by omega
    subst hj5
    exfalso
    omega
  | succ f ih =>
    intro j e hj hjn g0 g1 g3
    rw [run_loop]
    have hp : 10 ^ (j + 1) = 10 ^ j * 10 := Nat.pow_succ ..
    have hp1 : 1 ≤ 10 ^ j := Nat.pow_pos (by omega)
    have hp2 : 10 ^ j ≤ 10 ^ 4 := Nat.pow_le_pow_right (by omega) (by omega)
    have hnext := ih (j + 1)
    have hthis : ∀ k, k = j → (k = 0 ∨ 10 ^ k ≤ n) := fun k h => h ▸ hjn
    rw [hp] at hnext
    have hend : n < 10 ^ j * 10 → ∃ k, k ≤ 5 ∧ 10 ^ k = 10 ^ j ∧ n < 10 ^ (k + 1) ∧ (k = 0 ∨ 10 ^ k ≤ n) := fun h => ⟨j, by omega, rfl, by rw [hp]; exact h, hjn⟩
    generalize 10 ^ j = p at *
    have hq : (n : Int).tdiv (p : Int) = ((n / p : Nat) : Int) := (Int.ofNat_tdiv n p).symm
    have hle : n / p ≤ n := Nat.div_le_self n p
    have hd : 10 ≤ n / p ↔ p * 10 ≤ n := by rw [Nat.le_div_iff_mul_le hp1, Nat.mul_comm]
    have hp0 : ¬ (p : Int) = 0 := by omega
    have hp0' : ¬ p = 0 := by omega
    have wp : IntKind.i64.wrap ((p : Int) * 10) = ((p * 10 : Nat) : Int) := by rw [wrap64' (by omega) (by omega)]; omega
    generalize n / p = q at *
    have wq : IntKind.i64.wrap (q : Int) = (q : Int) := wrap64' (by omega) (by omega)
    by_cases hc : 10 ≤ q
    · have hc' : (10 : Int) ≤ q := by omega
      simp [B.real_whole_1_l0, go_sem, g0, g1, g3, RO.run, rd_one hg, hq, wq, hp0, hp0', hc, hc', wp]
      exact hnext _ (by omega) (.inr (hd.1 hc)) (by simp [go_sem]) (by simp [go_sem]) (by simp [go_sem, wp])
    · have hc' : ¬ (10 : Int) ≤ q := by omega
      simp [B.real_whole_1_l0, go_sem, g0, g1, g3, RO.run, rd_one hg, hq, wq, hp0, hp0', hc, hc']
      obtain ⟨k, k1, k2, k3, k4⟩ := hend (by omega)
      exact ⟨k, k1, by rw [← k2]; rfl, k3, k4⟩

theorem whole_l1 {n m : Nat} (hn : n ≤ 65536) {Y : AV} (P : List UInt8 → St → Prop) (hg : ∀ l s, P l s → hget s.h m = some (.cells 3 false [.int .i64 (n : Int)]))
    (hY : ∀ l s (c : UInt8), P l s → l.length ≤ 10 → CRes (call T Y [.int .u8 (c.toNat : Int)] s) fun v s2 => v = .bool true ∧ P (l ++ [c]) s2) : ∀ (k : Nat) (l : List UInt8) (e : Env) (st1 : St), k ≤ 5 → l.length + k ≤ 10 → P l st1 → eget e 0 = Y → eget e 1 = .ptr m 0 → eget e 3 = .int .i64 ((10 ^ k : Nat) : Int) →
    Res (run T (.loop B.real_whole_1_l1) e st1) fun x e' s' => x = .exit 2 ∧ P (l ++ digsF n k) s' := by
  have step : ∀ (p : Nat) (l : List UInt8) (e : Env) (st1 : St) (Q : Ex → Env → St → Prop), 1 ≤ p → p ≤ 100000 → l.length ≤ 10 → P l st1 → eget e 0 = Y → eget e 1 = .ptr m 0 → eget e 3 = .int .i64 (p : Int) →
      (∀ e' s', P (l ++ [UInt8.ofNat (48 + n / p % 10)]) s' → eget e' 0 = Y → eget e' 1 = .ptr m 0 → eget e' 3 = .int .i64 ((p / 10 : Nat) : Int) → Res (run T (.loop B.real_whole_1_l1) e' s') Q) →
      Res (run T (.loop B.real_whole_1_l1) e st1) Q := by
    intro p l e st1 Q hp1 hp2 hl hP g0 g1 g3 hfin
    rw [run_loop]
    have hq : (n : Int).tdiv (p : Int) = ((n / p : Nat) : Int) := (Int.ofNat_tdiv n p).symm
    have hle : n / p ≤ n := Nat.div_le_self n p
    have hp0 : ¬ (p : Int) = 0 := by omega
    have hp0' : ¬ p = 0 := by omega
    have hpp : (0 : Int) < p := by omega
    have hpp' : 0 < p := by omega
    generalize n / p = q at *
    have wq : IntKind.i64.wrap (q : Int) = (q : Int) := wrap64' (by omega) (by omega)
    obtain ⟨hr, _⟩ := div10 q
    obtain ⟨_, hs⟩ := div10 p
    have wr : IntKind.u8.wrap ((q % 10 : Nat) : Int) = ((q % 10 : Nat) : Int) := by
      have : q % 10 < 10 := Nat.mod_lt _ (by omega)
      generalize q % 10 = r at *
      have : r = 0 ∨ r = 1 ∨ r = 2 ∨ r = 3 ∨ r = 4 ∨ r = 5 ∨ r = 6 ∨ r = 7 ∨ r = 8 ∨ r = 9 := by omega
      rcases this with rfl | rfl | rfl | rfl | rfl | rfl | rfl | rfl | rfl | rfl <;> rfl
    have ws : IntKind.i64.wrap ((p / 10 : Nat) : Int) = ((p / 10 : Nat) : Int) := wrap64' (by omega) (by omega)
    obtain ⟨w1, _⟩ := digW (Nat.mod_lt q (show 0 < 10 by omega))
    generalize q % 10 = r at *
    generalize p / 10 = p2 at *
    generalize UInt8.ofNat (48 + r) = c at *
    simp [B.real_whole_1_l1, go_sem, g0, g1, g3, RO.run, rd_one (hg _ _ hP), hq, wq, hp0, hp0', hpp, hpp', hr, wr, w1]
    refine (hY l st1 c hP hl).mono ?_
    rintro v s2 ⟨rfl, hP2⟩
    simp [go_sem, g0, g1, g3, hs, ws]
    exact hfin _ _ hP2 (by simp [go_sem]) (by simp [go_sem]) (by simp [go_sem, hs, ws])
  intro k
  induction k with
  | zero =>
    intro l e st1 _ hl hP g0 g1 g3
    refine step 1 l e st1 _ (by omega) (by omega) (by omega) hP g0 g1 (by simpa using g3) ?_
    intro e' s' hP' k0 k1 k3
    rw [run_loop]
    simp [B.real_whole_1_l1, go_sem, k0, k1, k3]
    rw [Nat.div_one] at hP'
    exact hP'
  | succ k ih =>
    intro l e st1 hk hl hP g0 g1 g3
    have hp1 : 1 ≤ 10 ^ (k + 1) := Nat.pow_pos (by omega)
    have hp2 : 10 ^ (k + 1) ≤ 10 ^ 5 := Nat.pow_le_pow_right (by omega) (by omega)
    refine step (10 ^ (k + 1)) l e st1 _ hp1 (by omega) (by omega) hP g0 g1 g3 ?_
    intro e' s' hP' k0 k1 k3
    have hp3 : 10 ^ (k + 1) / 10 = 10 ^ k := by rw [Nat.pow_succ]; omega
    rw [hp3] at k3
    have := ih (l ++ [UInt8.ofNat (48 + n / 10 ^ (k + 1) % 10)]) e' s' (by omega) (by simp; omega) hP' k0 k1 k3
    rw [List.append_assoc] at this
    exact this

/-- The closure of real.whole. -/
theorem whole_yields (H : B.H_real_whole_1 T) {n m : Nat} (hn : n ≤ 65536) {Y : AV} (P : List UInt8 → St → Prop) (hg : ∀ l s, P l s → hget s.h m = some (.cells 3 false [.int .i64 (n : Int)]))
    (hY : ∀ l s (c : UInt8), P l s → l.length ≤ 10 → CRes (call T Y [.int .u8 (c.toNat : Int)] s) fun v s2 => v = .bool true ∧ P (l ++ [c]) s2) (hP : P [] st) {Q : St → Prop} (hQ : ∀ s, P (Lib.decDigits n) s → Q ⟨dropLoc st.nx s.h, s.nx⟩) :
    CRes (call T (.fn 139 [] [.ptr m 0]) [Y] st) fun _ s => Q s := by
  refine call_any H.e H.f rfl rfl ?_
  simp [B.real_whole_1, go_sem]
  refine (whole_l0 hn (hg _ _ hP) (y := Y) 5 0 _ rfl (.inl rfl) (by simp [go_sem]) (by simp [go_sem]) (by simp [go_sem])).mono ?_
  rintro x e s ⟨rfl, rfl, k0, k1, k, hk, k3, k4, k5⟩
  simp [go_sem, k0, k1, k3]
  refine (whole_l1 hn P hg hY k [] _ _ hk (by simp; omega) hP (by simp [go_sem]) (by simp [go_sem]) (by simp [go_sem])).mono ?_
  rintro x e s ⟨rfl, hP2⟩
  rw [digsF_dec k n k4 k5] at hP2
  simp [go_sem]
  exact hQ s (by simpa using hP2)

end Go.Ev

/- real.Print told. -/
namespace Go.Ev
open Go
set_option linter.unusedSimpArgs false
set_option linter.unusedSectionVars false
set_option linter.unusedVariables false

variable {T : Tab} {st : St}

/-- The body of Print's closure behind its first k parts. -/
def pb : Nat → MCode
  | 0 => B.real_Print_1.body
  | k + 1 => (pb k).b

/-- A Builder stays when an object of another kind is written or struck. -/
theorem Bd.frm1 {st0 s s' : St} {q m : Nat} {l : List UInt8} {o : AObj} (b : Bd st0 s q l) (f : Frm [m] s s') (hw : s.Wf) (hm : hget s.h m = some o) (h1 : ∀ ty l cs, o ≠ .cells ty l cs) (h2 : ∀ ty es cs, o ≠ .buf ty es cs) : Bd st0 s' q l := by
  obtain ⟨k1, a, v, k2, k3, k4, k5⟩ := b
  have hq : q ≠ m := by rintro rfl; rw [hm] at k2; cases k2; exact h1 _ _ _ rfl
  have hv : ∀ n ∈ v.nms, n ∉ [m] := by
    intro n hn hnm
    simp at hnm
    subst hnm
    rcases k4.nms hn with ⟨ty, h⟩ | h
    · rw [hm] at h; cases h; exact h1 _ _ _ rfl
    · rw [hm] at h; cases h; exact h2 _ _ _ rfl
  exact ⟨k1, a, v, f.get hw k2 (by simpa using hq), k3, k4.frm f hw hv, k5⟩

theorem print1_frac (H : B.H_real_Print_1 T) (st0 : St) : ∀ (k f : Nat) (first : Bool) (l : List UInt8) (q : Nat) (e : Env) (st1 : St), k + 1 ≤ 17 → f < 65536 → 2 ^ (17 - (k + 1)) ∣ f → (first = true ∨ 0 < f) → (first = true → k = 16) → l.length + k ≤ 1000 → Ext st0 st1 → Bd st0 st1 q l → eget e 4 = .ptr q 0 → eget e 7 = .int .i64 (f : Int) → eget e 8 = .bool first →
    Res (run T (.loop B.real_Print_1_l1) e st1) fun x e' s' => x = .exit 2 ∧ Ext st0 s' ∧ Bd st0 s' q (l ++ fracS (k + 1) f) ∧ eget e' 4 = .ptr q 0 := by
  intro k
  induction k with
  | zero =>
    intro f first l q e st1 hi hf hd hgo hk hl hx b g4 g7 g8
    obtain ⟨m, hm⟩ := hd
    have hf0 : f = 0 := by
      rw [show (2 : Nat) ^ (17 - (0 + 1)) = 65536 from rfl] at hm; omega
    exfalso
    rcases hgo with h | h
    · have := hk h; omega
    · omega
  | succ k ih =>
    intro f first l q e st1 hi hf hd hgo hk hl hx b g4 g7 g8
    obtain ⟨a1, a2, a3, a4, a5, a6⟩ := frac_nums hf
    obtain ⟨w1, w2⟩ := digW a5
    have hdv := frac_dvd (k := k + 1) (by omega) (by omega) hd
    have hfr : fracS (k + 1 + 1) f = UInt8.ofNat (48 + f * 10 / 65536) :: (if f * 10 % 65536 = 0 then [] else fracS (k + 1) (f * 10 % 65536)) := rfl
    rw [hfr]
    generalize f * 10 / 65536 = d at *
    generalize f * 10 % 65536 = r at *
    generalize f * 10 = t at *
    have wd : IntKind.u8.wrap (d : Int) = (d : Int) := by
      have : d = 0 ∨ d = 1 ∨ d = 2 ∨ d = 3 ∨ d = 4 ∨ d = 5 ∨ d = 6 ∨ d = 7 ∨ d = 8 ∨ d = 9 := by omega
      rcases this with rfl | rfl | rfl | rfl | rfl | rfl | rfl | rfl | rfl | rfl <;> rfl
    generalize UInt8.ofNat (48 + d) = c at *
    obtain ⟨OUT, hO⟩ : ∃ OUT, OUT = l ++ c :: (if r = 0 then [] else fracS (k + 1) r) := ⟨_, rfl⟩
    rw [← hO]
    have fin : ∀ e' s', Ext st0 s' → Bd st0 s' q (l ++ [c]) → eget e' 4 = .ptr q 0 → eget e' 7 = .int .i64 (r : Int) → eget e' 8 = .bool false →
        Res (run T (.loop B.real_Print_1_l1) e' s') fun x e' s' => x = .exit 2 ∧ Ext st0 s' ∧ Bd st0 s' q OUT ∧ eget e' 4 = .ptr q 0 := by
      intro e' s' hx' b' k4 k7 k8
      by_cases hr : r = 0
      · subst hr
        have hO' : OUT = l ++ [c] := by rw [hO]; simp
        rw [run_loop]
        simp [B.real_Print_1_l1, go_sem, k4, k7, k8, hx', hO', b']
      · have hO' : OUT = (l ++ [c]) ++ fracS (k + 1) r := by rw [hO, if_neg hr]; simp
        rw [hO']
        exact ih r false (l ++ [c]) q e' s' (by omega) a6 hdv (.inr (by omega)) (by simp) (by simp; omega) hx' b' k4 k7 k8
    rw [run_loop]
    by_cases hf0 : 0 < f
    · have hf0' : (0 : Int) < f := by omega
      simp [B.real_Print_1_l1, go_sem, g4, g7, g8, a1, a2, a3, a4, hf0, hf0', wd, w1]
      refine (writeByte_at H.strings_Builder_WriteByte hx c rfl b (by omega)).mono ?_
      rintro _ s1 ⟨x1, b1⟩
      simp [go_sem, a3]
      exact fin _ _ x1 b1 (by simp [go_sem]) (by simp [go_sem, a3]) (by simp [go_sem])
    · have hf1 : first = true := by rcases hgo with h | h; exact h; exact absurd h hf0
      subst hf1
      have hf0' : ¬ (0 : Int) < f := by omega
      simp [B.real_Print_1_l1, go_sem, g4, g7, g8, a1, a2, a3, a4, hf0, hf0', wd, w1]
      refine (writeByte_at H.strings_Builder_WriteByte hx c rfl b (by omega)).mono ?_
      rintro _ s1 ⟨x1, b1⟩
      simp [go_sem, a3]
      exact fin _ _ x1 b1 (by simp [go_sem]) (by simp [go_sem, a3]) (by simp [go_sem])

theorem Bd.dropLoc {st0 s : St} {q c : Nat} {l : List UInt8} (b : Bd st0 s q l) (hw : s.Wf) : Bd st0 ⟨Go.Ev.dropLoc c s.h, s.nx⟩ q l := by
  obtain ⟨k1, a, v, k2, k3, k4, k5⟩ := b
  exact ⟨k1, a, v, hget_dropLoc_keep hw k2 rfl, k3, k4.dropLoc hw, k5⟩
theorem box_not (n : Int) (l : List UInt8) : [AV.int .i64 n] ≠ u8s l := by
  cases l with
  | nil => simp [u8s]
  | cons c l => simp [u8s]

/-- The closure behind the sign. -/
theorem print1_tail (H : B.H_real_Print_1 T) (st0 : St) {q u : Nat} {pre : List UInt8} {e : Env} {s1 : St} (hu : u ≤ 4294967296) (hpre : pre.length ≤ 1) (hx : Ext st0 s1) (b : Bd st0 s1 q pre) (g4 : eget e 4 = .ptr q 0) (g5 : eget e 5 = .int .i64 (u : Int)) :
    Res (run T (pb 4) e s1) fun x e' s' => x = .ret ∧ Ext st0 s' ∧ eget e' 1 = .str (pre ++ (Lib.decDigits (u / 65536) ++ (46 :: fracS 17 (u % 65536)))) ∧ eget e' 2 = .int .i64 0 ∧ eget e' 3 = .int .i64 0 := by
  obtain ⟨a1, a2⟩ := div65536 u
  have hq : u / 65536 ≤ 65536 := by omega
  have hr : u % 65536 < 65536 := by omega
  have wq : IntKind.i64.wrap ((u / 65536 : Nat) : Int) = ((u / 65536 : Nat) : Int) := wrap64' (by omega) (by omega)
  generalize u / 65536 = n at *
  generalize u % 65536 = r at *
  simp only [pb, B.real_Print_1, ab_seq]
  simp [go_sem, g5, a1, wq]
  refine whole_call H.real_whole hx.wf ?_
  simp [go_sem]
  refine res_rangeFunc ?_
  simp [go_sem]
  have hqlt : q < s1.nx := by
    obtain ⟨_, _, _, k2, _⟩ := b
    exact hx.wf.lt _ _ k2
  have hd := decDigits_len10 (u := n) (by omega)
  have xa := Ext.new hx.wf (.cells 3 false [.int .i64 (n : Int)])
  generalize hE : ((17, AV.fn 139 [] [.ptr s1.nx 0]) :: (16, AV.int .i64 (n : Int)) :: (15, AV.int .i64 (u : Int)) :: e : Env) = E
  have q4 : eget E 4 = .ptr q 0 := by rw [← hE]; simp [go_sem, g4]
  clear hE
  obtain ⟨W, hW⟩ : ∃ W, W = B.real_Print_1_l0 := ⟨_, rfl⟩
  rw [← hW]
  generalize hO : (fun st => AObj.loop st E [18] (MCode.reg [{ dst := some 6, guard := none, op := MO.p (PO.mov (AO.t 18)) }]) W) = O
  have hOr : AObj.loop .ready E [18] (MCode.reg [{ dst := some 6, guard := none, op := MO.p (PO.mov (AO.t 18)) }]) W = O .ready := by rw [← hO]
  have hOb : AObj.loop .busy E [18] (MCode.reg [{ dst := some 6, guard := none, op := MO.p (PO.mov (AO.t 18)) }]) W = O .busy := by rw [← hO]
  have on1 : ∀ z ty l cs, O z ≠ .cells ty l cs := fun z ty l cs => by rw [← hO]; simp
  have on2 : ∀ z ty es cs, O z ≠ .buf ty es cs := fun z ty es cs => by rw [← hO]; simp
  have hOe : ∀ z, O z = AObj.loop z E [18] (MCode.reg [{ dst := some 6, guard := none, op := MO.p (PO.mov (AO.t 18)) }]) W := fun z => by rw [← hO]
  rw [hOr]
  have xb := xa.trans (Ext.new xa.wf (O .ready))
  simp only [Nat.add_assoc, Nat.reduceAdd] at xb ⊢
  clear hO
  refine (whole_yields H.real_whole.real_whole_1 (n := n) (m := s1.nx) hq
    (fun l s => Ext st0 s ∧ Bd st0 s q (pre ++ l) ∧ hget s.h (s1.nx + 1) = some (O .ready) ∧ hget s.h s1.nx = some (.cells 3 false [.int .i64 (n : Int)])) (fun l s h => h.2.2.2) ?_
    ⟨hx.trans xb, by simpa using b.ext xb hx.wf, by simp [hget_cons], by simp [hget_cons]⟩ (Q := fun s => Ext st0 s ∧ Bd st0 s q (pre ++ Lib.decDigits n) ∧ hget s.h (s1.nx + 1) = some (O .ready)) ?_).mono ?_
  · rintro l s c ⟨k1, k2, k3, k4⟩ hl
    rw [hOe] at k3
    refine cres_yield k3 rfl ?_
    simp [go_sem, k3]
    rw [hOr] at k3
    rw [hOb]
    have y1 : Ext st0 ⟨hset s.h (s1.nx + 1) (O .busy), s.nx⟩ := k1.setNew k3 (by have := hx.nx; omega)
    have y2 := k2.frm1 (Frm.set k1.wf k3 (o := O .busy)) k1.wf k3 (on1 _) (on2 _)
    have y3 := hget_hset_self (o := O .busy) k3
    have y4 := (hget_hset_ne (m := s1.nx) (o := O .busy) k3 (by omega)).trans k4
    refine Res.mono (Q := fun x _ s2 => x = .norm ∧ Ext st0 s2 ∧ Bd st0 s2 q (pre ++ l ++ [c]) ∧ hget s2.h (s1.nx + 1) = some (O .busy) ∧ hget s2.h s1.nx = some (.cells 3 false [.int .i64 (n : Int)])) ?_ ?_
    · rw [hW]
      simp [B.real_Print_1_l0, go_sem, q4]
      refine (writeByte_frm H.strings_Builder_WriteByte y1 c rfl y2 (by simp; omega)).mono ?_
      rintro _ s2 ⟨⟨z1, z2⟩, z3⟩
      have w1 := z3 (s1.nx + 1) (O .busy) (by omega) y3 (fun ty => on1 _ _ _ _) (on2 _ _ _ _)
      have w2 := z3 s1.nx _ (by omega) y4 (fun ty h => by injection h with _ _ h; exact box_not _ _ h) (by simp)
      simp [go_sem, z1, w1, w2]
      simpa using z2
    · rintro _ _ s2 ⟨rfl, z1, z2, w1, w2⟩
      refine ⟨by rw [hOb]; exact w1, ?_⟩
      show AV.bool true = .bool true ∧ _
      rw [hOr]
      refine ⟨rfl, z1.setNew w1 (by have := hx.nx; omega), ?_, hget_hset_self w1, (hget_hset_ne w1 (by omega)).trans w2⟩
      rw [← List.append_assoc]
      exact z2.frm1 (Frm.set z1.wf w1 (o := O .ready)) z1.wf w1 (on1 _) (on2 _)
  · rintro s ⟨k1, k2, k3, k4⟩
    exact ⟨k1.dropGe (by have := hx.nx; simp only; omega), k2.dropLoc k1.wf, by rw [hget_dropLoc_lt (by simp only; omega)]; exact k3⟩
  · rintro _ s ⟨k1, k2, k3⟩
    refine .inl ⟨k3, ?_⟩
    have f := Frm.hdel (st := s) k1.wf (s1.nx + 1)
    have y1 : Ext st0 ⟨hdel s.h (s1.nx + 1), s.nx⟩ := k1.frm f (by have := hx.nx; simp; omega)
    have y2 := k2.frm1 f k1.wf k3 (on1 _) (on2 _)
    rw [g4]
    refine (writeByte_at H.strings_Builder_WriteByte y1 46 rfl y2 (by simp; omega)).mono ?_
    rintro _ s2 ⟨x2, b2⟩
    simp [go_sem, g5, a2]
    refine (print1_frac H st0 16 r true _ q _ s2 (by omega) hr (by simp) (.inl rfl) (fun _ => rfl) (by simp; omega) x2 b2 (by simp [go_sem]) (by simp [go_sem]) (by simp [go_sem])).mono ?_
    rintro x e' s3 ⟨rfl, x3, b3, g4'⟩
    have := fracS_len 17 r
    simp [go_sem, g4']
    refine (string_res H.strings_Builder_String x3 b3 (by simp; omega) (by simp; omega)).mono ?_
    rintro v s4 ⟨rfl, x4⟩
    simp [go_sem]
    exact x4

theorem print1_tells (H : B.H_real_Print_1 T) (hwf : st.Wf) {p : Nat} {n : Int} (hp : hget st.h p = some (.cells 3 true [.int .i64 n])) (h0 : -4294967296 ≤ n) (h1 : n ≤ 4294967296) : Tells T st (.fn 136 [] [.ptr p 0]) [] (.tuple [.str (printS n), .int .i64 0, .int .i64 0]) := by
  refine tells_of H.e H.f rfl ?_
  have hx := Ext.new hwf (.cells 84 false [.nilptr, .nilslice])
  have hb : Bd st ⟨(st.nx, .cells 84 false [.nilptr, .nilslice]) :: st.h, st.nx + 1⟩ st.nx [] := ⟨Nat.le_refl _, .nilptr, .nilslice, by simp [hget_cons], .inl rfl, .nil _ _, by simp [AV.nms]⟩
  have hp0 := hx.get hwf hp
  refine cut (c := pb 0) rfl (by intro l; simp [pb, B.real_Print_1, ab_seq]) (fun x e' s' => x = .norm ∧ s' = st ∧ eget e' 0 = .ptr p 0) ?_ ?_
  · simp only [pb, B.real_Print_1, ab_seq]
    simp [go_sem]
  rintro _ e1 s1 ⟨rfl, hst, g0⟩
  rw [kSeq_norm, hst]
  clear hst
  refine cut (c := pb 1) rfl (by intro l; simp [pb, B.real_Print_1, ab_seq]) (fun x e' s' => x = .norm ∧ s' = ⟨(st.nx, .cells 84 false [.nilptr, .nilslice]) :: st.h, st.nx + 1⟩ ∧ eget e' 0 = .ptr p 0 ∧ eget e' 4 = .ptr st.nx 0) ?_ ?_
  · simp only [pb, B.real_Print_1, ab_seq]
    simp [go_sem, NO.run, g0]
  rintro _ e2 s2 ⟨rfl, hst, g0, g4⟩
  rw [kSeq_norm, hst]
  clear hst
  have hp1 : rdCell (⟨(st.nx, .cells 84 false [.nilptr, .nilslice]) :: st.h, st.nx + 1⟩ : St).h p 0 = some (.int .i64 n) := rd_one hp0
  generalize hS : (⟨(st.nx, .cells 84 false [.nilptr, .nilslice]) :: st.h, st.nx + 1⟩ : St) = sA at hx hb hp1 ⊢
  clear hS
  refine cut (c := pb 2) rfl (by intro l; simp [pb, B.real_Print_1, ab_seq]) (fun x e' s' => x = .norm ∧ s' = sA ∧ eget e' 4 = .ptr st.nx 0 ∧ eget e' 5 = .int .i64 n) ?_ ?_
  · simp only [pb, B.real_Print_1, ab_seq]
    simp [go_sem, RO.run, g0, g4, hp1]
  rintro _ e3 s3 ⟨rfl, hst, g4, g5⟩
  rw [kSeq_norm, hst]
  clear hst
  refine cut (c := pb 3) rfl (by intro l; simp [pb, B.real_Print_1, ab_seq]) (fun x e' s' => x = .norm ∧ eget e' 4 = .ptr st.nx 0 ∧ ∃ (u : Nat) (pre : List UInt8), eget e' 5 = .int .i64 (u : Int) ∧ u ≤ 4294967296 ∧ pre.length ≤ 1 ∧ Ext st s' ∧ Bd st s' st.nx pre ∧ printS n = pre ++ (Lib.decDigits (u / 65536) ++ (46 :: fracS 17 (u % 65536)))) ?_ ?_
  · simp only [pb, B.real_Print_1, ab_seq]
    by_cases hn : n < 0
    · obtain ⟨u, hu⟩ : ∃ u : Nat, n = -(u : Int) := ⟨n.natAbs, by omega⟩
      have e1 : IntKind.i64.wrap (-n) = u := by rw [wrap64' (by omega) (by omega)]; omega
      simp [go_sem, g4, g5, hn]
      refine (writeByte_at H.strings_Builder_WriteByte hx 45 rfl hb (by simp)).mono ?_
      rintro _ s1 ⟨x1, b1⟩
      simp [go_sem, g4, g5, e1]
      exact ⟨u, rfl, by omega, [45], by simp, x1, by simpa using b1, by rw [hu, printS_neg (by omega)]; rfl⟩
    · obtain ⟨u, rfl⟩ := Int.eq_ofNat_of_zero_le (show 0 ≤ n by omega)
      simp [go_sem, g4, g5, hn]
      exact ⟨u, rfl, by omega, [], by simp, hx, hb, by rw [printS_pos]; rfl⟩
  rintro _ e4 s4 ⟨rfl, g4, u, pre, g5, hu, hpre, x4, b4, hpr⟩
  rw [kSeq_norm, hpr]
  refine (print1_tail H st (q := st.nx) hu hpre x4 b4 g4 g5).mono ?_
  rintro _ e5 s5 ⟨rfl, x5, k1, k2, k3⟩
  refine ⟨.inr rfl, ?_⟩
  simp [B.real_Print_1, fresults, resVals, resVal, RO.run, k1, k2, k3, x5]

theorem realPrint_tells (H : B.H_real_Print T) (hwf : st.Wf) {n : Int} (h0 : -2147483648 ≤ n) (h1 : n ≤ 2147483648) : Tells T st (.fn 133 [] []) [.int .i64 n] (.tuple [.str (printS n), .int .i64 0]) := by
  refine tells_of H.e H.f rfl ?_
  have hx := Ext.new hwf (.cells 3 true [.int .i64 n])
  have hx2 := hx.trans (Ext.new hx.wf (.cells 3 false [.int .i64 n]))
  simp only [Nat.add_assoc, Nat.reduceAdd] at hx2
  have hr : Tells T ⟨(st.nx + 1, .cells 3 false [.int .i64 n]) :: (st.nx, .cells 3 true [.int .i64 n]) :: st.h, st.nx + 2⟩ (.fn 137 [] []) [.fn 136 [] [.ptr st.nx 0], .slice (st.nx + 1) 0 1 (.known 1)] (.tuple [.str (printS n), .int .i64 0]) := by
    refine tells_of H.real_result_string.e H.real_result_string.f rfl ?_
    simp [B.real_result_string, go_sem]
    rw [run_loop]
    simp [B.real_result_string_l0, go_sem, RO.run, rdCell, hget_cons]
    refine (is110_tells H.real_result_string.real_Is hx2.wf).use fun s1 x1 => ?_
    simp [go_sem, h0, h1]
    rw [run_loop, show IntKind.i64.wrap 1 = 1 from rfl]
    simp [B.real_result_string_l0, go_sem]
    have hp : hget s1.h st.nx = some (.cells 3 true [.int .i64 n]) := x1.get hx2.wf (by simp [hget_cons])
    refine (print1_tells H.real_Print_1 x1.wf hp (by omega) (by omega)).use fun s2 x2 => ?_
    simp [go_sem]
    refine (is110_tells H.real_result_string.real_Is x2.wf).use fun s3 x3 => ?_
    simp [go_sem]
    exact (x1.trans x2).trans x3
  simp [B.real_Print, go_sem, NO.run, RO.run, rdCell, hget_cons, Nat.add_assoc]
  refine hr.use fun s1 x1 => ?_
  simp [go_sem]
  exact hx2.trans x1

end Go.Ev

/- lex.Text; the token of a draft. -/
namespace Go.Ev
open Go
set_option linter.unusedSimpArgs false
set_option linter.unusedSectionVars false
set_option linter.unusedVariables false

variable {T : Tab} {st : St}

/-- The library's table of powers of ten is among the objects. -/
def Pow (st : St) : Prop := ∃ m cs, hget st.h m = some (.glob B.gPow10 cs) ∧ cs.map B.av64 = Lib.pow10Tab.map some
theorem Pow.ext {s : St} (h : Pow st) (x : Ext st s) (hw : st.Wf) : Pow s := by
  obtain ⟨m, cs, h1, h2⟩ := h
  exact ⟨m, cs, x.get hw h1, h2⟩

theorem itoa_call (H : B.H_strconv_Itoa T) (hp : Pow st) {n : Int} (h0 : -9223372036854775808 ≤ n) (h1 : n ≤ 9223372036854775807) : call T (.fn 132 [] []) [.int .i64 n] st = some (.str (Lib.itoa n), st) := by
  obtain ⟨m, cs, k1, k2⟩ := hp
  rw [call_entry H.en]
  simp only [List.nil_append, List.append_nil, B.E_strconv_Itoa]
  rw [if_pos ⟨hasPow_of k1 k2, h0, h1⟩]

theorem lexText_tells (H : B.H_lex_Text T) (hwf : st.Wf) (hp : Pow st) {k n : Int} {t : List UInt8} (hs : t.length < 1000000000000) : Tells T st (.fn 128 [] []) [.agg [.int .i64 k, .int .i64 n, .str t]]
    (.tuple [.str (if rightT k n t = true then textS k n t else []), .int .i64 (if rightT k n t = true then 0 else 130)]) := by
  refine tells_of H.e H.f rfl ?_
  have hx := Ext.new hwf (.cells 134 true [.int .i64 k, .int .i64 n, .str t])
  have g : hget ((st.nx, AObj.cells 134 true [.int .i64 k, .int .i64 n, .str t]) :: st.h) st.nx = some (.cells 134 true [.int .i64 k, .int .i64 n, .str t]) := by simp [hget_cons]
  simp [B.lex_Text, go_sem, NO.run, WO.run, RO.run, rd_tok]
  refine (check_tells H.lex_Check hx.wf (by omega)).use fun s1 hs1 => ?_
  have e1 := hx.trans hs1
  have g1 := hs1.get hx.wf g
  have p1 := hp.ext e1 hwf
  cases hr : rightT k n t with
  | false => simp [go_sem, e1]
  | true =>
    have hb := right_bound hr
    have hl1 : 1 + t.length < 4611686018427387904 := by omega
    have hl2 : 2 + t.length < 4611686018427387904 := by omega
    simp [go_sem, RO.run, rdCell, g1]
    by_cases h1 : k = 1
    · subst h1
      obtain ⟨b0, b1⟩ := hb (.inl rfl)
      have hi := itoa_call (n := n) H.strconv_Itoa p1 (by omega) (by omega)
      simp [go_sem, RO.run, rdCell, g1, hi, textS, e1]
    by_cases h2 : k = 2
    · subst h2
      have hb2 : -2147483648 ≤ n ∧ n ≤ 2147483648 := by simp [rightT] at hr; omega
      simp [go_sem, RO.run, rdCell, g1]
      refine (realPrint_tells H.real_Print e1.wf hb2.1 hb2.2).use fun s2 x2 => ?_
      simp [go_sem, textS, e1.trans x2]
    by_cases h4 : k = 4
    · subst h4
      simp [go_sem, RO.run, rdCell, g1, hl1, textS, e1]
    by_cases h5 : k = 5
    · subst h5
      simp [go_sem, RO.run, rdCell, g1, hl2, textS, e1]
    by_cases h6 : k = 6
    · subst h6
      simp [go_sem, RO.run, rdCell, g1]
      refine (quote_tells H.lex_Quote e1.wf hs).use fun s2 x2 => ?_
      simp [go_sem, textS, e1.trans x2]
    by_cases h7 : k = 7
    · subst h7
      simp [go_sem, RO.run, rdCell, g1, textS, e1]
    by_cases h8 : k = 8
    · subst h8
      simp [go_sem, RO.run, rdCell, g1, textS, e1]
    simp [go_sem, RO.run, rdCell, g1, h1, h2, h4, h5, h6, h7, h8, textS, e1]

/-- The token of a draft. -/
def nameD (K : Nat) : List UInt8 := match K / 8 % 7 with
  | 0 => [97]
  | 1 => [91]
  | 2 => [93]
  | 3 => [60, 60]
  | 4 => [62, 62]
  | 5 => [120, 45, 49]
  | _ => [61]
def regD (t : List UInt8) : List UInt8 := (t.take 20).filter isReg
def draftT (K : Nat) (N : Int) (t : List UInt8) : Int × Int × List UInt8 :=
  if K % 8 = 0 ∨ K % 8 = 1 then (1 + (K % 8 : Nat), N, [])
  else if K % 8 = 5 then (6, 0, t.take 60)
  else if K % 8 = 6 ∨ K % 8 = 7 then (1 + (K % 8 : Nat), 0, [])
  else if K % 8 = 2 ∧ rightT 3 0 (regD t) = false then (3, 0, nameD K)
  else (1 + (K % 8 : Nat), 0, regD t)

theorem rd_at {h : Heap} {n ty k : Nat} {l : Bool} {cs : List AV} {v : AV} (hg : hget h n = some (.cells ty l cs)) (hk : cs[k]? = some v) : rdCell h n k = some v := by simp [rdCell, hg, hk]
theorem Ext.get' {s s' : St} (a : Ext s s') {n : Nat} {o : AObj} (hl : n < s.nx) (h : hget s.h n = some o) : hget s'.h n = some o := by rw [a.keep n hl, h]

theorem token_loop (H : B.H_chaseref03_Draft_Token T) {stA : St} {b r : Nat} {K N : AV} {t : List UInt8} (hb : hget stA.h b = some (.cells 205 true [K, N, .str t])) (hbl : b < stA.nx) {kv : AV} {L : Nat} (hL : L = min t.length 20) (ht : t.length < 4000000000000000000) :
    ∀ (m i : Nat) (out : List UInt8) (e : Env) (st1 : St) (v : AV), i + m = L → out.length ≤ i → Ext stA st1 → Sl st1 v 5 1 out.length (u8s out) → Mine [] stA v → eget e 1 = .ptr b 0 → eget e 2 = .ptr r 0 → eget e 3 = kv → eget e 4 = v → eget e 5 = .int .i64 i →
    Res (run T (.loop B.chaseref03_Draft_Token_l0) e st1) fun x e' s' => x = .exit 1 ∧ Ext stA s' ∧ eget e' 1 = .ptr b 0 ∧ eget e' 2 = .ptr r 0 ∧ eget e' 3 = kv ∧ Sl s' (eget e' 4) 5 1 (out ++ ((t.take 20).drop i).filter isReg).length (u8s (out ++ ((t.take 20).drop i).filter isReg)) ∧ Mine [] stA (eget e' 4) := by
  have hlen : (t.take 20).length = L := by rw [List.length_take]; omega
  intro m
  induction m with
  | zero =>
    intro i out e st1 v hi ho hx hg hm g1 g2 g3 g4 g5
    have hd : (t.take 20).drop i = [] := List.drop_eq_nil_of_le (by omega)
    rw [hd, run_loop]
    have rb := rd_at (k := 2) (hx.get' hbl hb) rfl
    by_cases h1 : i < t.length
    · have h1' : (i : Int) < t.length := by omega
      have h2 : ¬ (i : Int) < 20 := by omega
      have h2' : ¬ i < 20 := by omega
      simp [B.chaseref03_Draft_Token_l0, go_sem, RO.run, g1, g2, g3, g4, g5, rb, h1, h1', h2, h2', hx, hg, hm]
    · have h1' : ¬ (i : Int) < t.length := by omega
      simp [B.chaseref03_Draft_Token_l0, go_sem, RO.run, g1, g2, g3, g4, g5, rb, h1, h1', hx, hg, hm]
  | succ m ih =>
    intro i out e st1 v hi ho hx hg hm g1 g2 g3 g4 g5
    have hil : i < t.length := by omega
    have hil' : (i : Int) < t.length := by omega
    have h2 : (i : Int) < 20 := by omega
    have h2' : i < 20 := by omega
    obtain ⟨c, hc, _⟩ := idx_some (s := t) (i := i) hil
    have hd : (t.take 20).drop i = c :: (t.take 20).drop (i + 1) := by
      have hi2 : i < (t.take 20).length := by omega
      rw [List.drop_eq_getElem_cons hi2]
      congr 1
      rw [List.getElem_take]
      exact (List.getElem?_eq_some_iff.1 hc).2
    have ek : IntKind.i64.wrap ((i : Int) + 1) = ((i + 1 : Nat) : Int) := wrap64' (by omega) (by omega)
    have hge : ∀ n ∈ v.nms, stA.nx ≤ n := fun n hn => by
      rcases hm n hn with h | h
      · cases h
      · exact h
    have rb := rd_at (k := 2) (hx.get' hbl hb) rfl
    obtain ⟨OUT, hO⟩ : ∃ OUT, OUT = out ++ ((t.take 20).drop i).filter isReg := ⟨_, rfl⟩
    have hOt : isReg c = true → (out ++ [c]) ++ ((t.take 20).drop (i + 1)).filter isReg = OUT := fun h => by rw [hO, hd, List.filter_cons, if_pos h]; simp
    have hOf : isReg c = false → out ++ ((t.take 20).drop (i + 1)).filter isReg = OUT := fun h => by rw [hO, hd, List.filter_cons, if_neg (by simp [h])]
    rw [← hO, run_loop]
    clear hd hO
    simp [B.chaseref03_Draft_Token_l0, go_sem, RO.run, g1, g2, g3, g4, g5, rb, hil', h2, h2', hc]
    refine (refRegular_tells H.chaseref03_Regular hx.wf c).use fun s1 x1 => ?_
    have hx1 := hx.trans x1
    have rb1 := rd_at (k := 2) (hx1.get' hbl hb) rfl
    cases hrg : isReg c with
    | true =>
      have hap := GrowS.app (m := [c]) hx1.nx hx1.wf (hg.ext x1 hx.wf) hm (by simp) (by simp; omega)
      have hu : u8s [c] = [.int .u8 (c.toNat : Int)] := rfl
      rw [hu] at hap
      have hap : CRes _ _ := hap
      have ih2 := fun e' st2 v' => ih (i + 1) (out ++ [c]) e' st2 v' (by omega) (by simp; omega)
      rw [hOt hrg] at ih2
      simp [go_sem, RO.run, NO.run, reps, g1, g2, g3, g4, g5, rb1, hc]
      refine hap.mono ?_
      rintro v2 s2 ⟨o2, m2, _, f2⟩
      simp [go_sem, ek]
      exact ih2 _ _ v2 (hx1.frm f2 hge) o2 m2 (by simp [go_sem, g1]) (by simp [go_sem, g2]) (by simp [go_sem, g3]) (by simp [go_sem]) (by simp [go_sem, ek])
    | false =>
      have ih2 := fun e' st2 v' => ih (i + 1) out e' st2 v' (by omega) (by omega)
      rw [hOf hrg] at ih2
      simp [go_sem, g1, g2, g3, g4, g5, ek]
      exact ih2 _ _ v hx1 (hg.ext x1 hx.wf) hm (by simp [go_sem, g1]) (by simp [go_sem, g2]) (by simp [go_sem, g3]) (by simp [go_sem, g4]) (by simp [go_sem, ek])

/-- The body of Draft.Token behind its first k parts. -/
def tb : Nat → MCode
  | 0 => B.chaseref03_Draft_Token.body
  | k + 1 => (tb k).b

theorem nameD_eq {K : Nat} (hK : K < 256) : ∃ q s : Nat, (K : Int).tdiv 8 = (q : Int) ∧ IntKind.u8.wrap (q : Int) = q ∧ (q : Int).tmod 7 = (s : Int) ∧ s < 7 ∧ [[97], [91], [93], [60, 60], [62, 62], [120, 45, 49], [61]][s]? = some (nameD K) := by
  refine ⟨K / 8, K / 8 % 7, ?_, ?_, ?_, by omega, ?_⟩
  · rw [Int.tdiv_eq_ediv_of_nonneg (by omega)]; omega
  · have h : (List.range 32).all (fun n => decide (IntKind.u8.wrap ((n : Nat) : Int) = n)) = true := by kernel_rfl
    have := List.all_eq_true.1 h (K / 8) (List.mem_range.2 (by omega))
    simpa using this
  · rw [Int.tmod_eq_emod_of_nonneg (by omega)]; omega
  · have : K / 8 % 7 < 7 := by omega
    unfold nameD
    generalize K / 8 % 7 = s at *
    have : s = 0 ∨ s = 1 ∨ s = 2 ∨ s = 3 ∨ s = 4 ∨ s = 5 ∨ s = 6 := by omega
    rcases this with rfl | rfl | rfl | rfl | rfl | rfl | rfl <;> rfl

theorem token_tail (H : B.H_chaseref03_Draft_Token T) {st0 stA : St} {b r : Nat} {K k : Nat} {N : Int} {t : List UInt8} (hK : K < 256) (ht : t.length < 4000000000000000000) (hx0 : Ext st0 stA) (hb : hget stA.h b = some (.cells 205 true [.int .u8 (K : Int), .int .i32 N, .str t]))
    (hr : hget stA.h r = some (.cells 134 true [.int .i64 0, .int .i64 0, .str []])) (hr0 : st0.nx ≤ r) (hk : k = 3 ∨ k = 4 ∨ k = 5) {e : Env} (g1 : eget e 1 = .ptr b 0) (g2 : eget e 2 = .ptr r 0) (g3 : eget e 3 = .int .i64 (k : Int)) :
    Res (run T (tb 3) e stA) fun x e' s' => x = .ret ∧ Ext st0 s' ∧ eget e' 2 = .ptr r 0 ∧ hget s'.h r = some (.cells 134 true [.int .i64 (k : Int), .int .i64 0, .str (if k = 3 ∧ rightT 3 0 (regD t) = false then nameD K else regD t)]) := by
  have hbl := hx0.wf.lt _ _ hb
  have hrl := hx0.wf.lt _ _ hr
  show Res (run T (.seq (.keep [1, 2, 3]) (tb 4)) e stA) _
  rw [run_keep]
  have h4 : eget (keepE [1, 2, 3] e) 1 = .ptr b 0 ∧ eget (keepE [1, 2, 3] e) 2 = .ptr r 0 ∧ eget (keepE [1, 2, 3] e) 3 = .int .i64 (k : Int) := by simp [keepE, eget, g1, g2, g3]
  generalize keepE [1, 2, 3] e = e0 at h4
  obtain ⟨g1, g2, g3⟩ := h4
  refine cut (c := tb 4) rfl (by intro l; simp [tb, B.chaseref03_Draft_Token, ab_seq]) (fun x e' s' => x = .norm ∧ s' = stA ∧ eget e' 1 = .ptr b 0 ∧ eget e' 2 = .ptr r 0 ∧ eget e' 3 = .int .i64 (k : Int) ∧ eget e' 4 = .nilslice) ?_ ?_
  · simp only [tb, B.chaseref03_Draft_Token, ab_seq]
    simp [go_sem, g1, g2, g3]
  rintro _ e1 s1 ⟨rfl, hst, g1, g2, g3, g4⟩
  rw [kSeq_norm, hst]
  clear hst
  refine cut (c := tb 5) rfl (by intro l; simp [tb, B.chaseref03_Draft_Token, ab_seq]) (fun x e' s' => x = .norm ∧ Ext stA s' ∧ eget e' 1 = .ptr b 0 ∧ eget e' 2 = .ptr r 0 ∧ eget e' 3 = .int .i64 (k : Int) ∧ Sl s' (eget e' 4) 5 1 (regD t).length (u8s (regD t)) ∧ Mine [] stA (eget e' 4)) ?_ ?_
  · simp only [tb, B.chaseref03_Draft_Token, ab_seq]
    simp [go_sem, g1, g2, g3, g4]
    refine (token_loop H hb hbl (r := r) (kv := .int .i64 (k : Int)) rfl ht (min t.length 20) 0 [] _ stA .nilslice (by simp) (by simp) (.refl hx0.wf) ⟨0, .nil rfl rfl rfl⟩ (fun n h => by simp [AV.nms] at h) (by simp [go_sem, g1]) (by simp [go_sem, g2]) (by simp [go_sem, g3]) (by simp [go_sem, g4]) (by simp [go_sem])).mono ?_
    rintro x e1 s1 ⟨rfl, x1, k1, k2, k3, hsl, hmine⟩
    have hR : [] ++ ((t.take 20).drop 0).filter isReg = regD t := by simp [regD]
    rw [hR] at hsl
    simp [go_sem, k1, k2, k3, x1]
    exact ⟨hsl, hmine⟩
  rintro _ e2 s2 ⟨rfl, x2, g1, g2, g3, hsl, hmine⟩
  rw [kSeq_norm]
  have hRl : (regD t).length ≤ 20 := by
    unfold regD
    exact Nat.le_trans (List.length_filter_le _ _) (by rw [List.length_take]; omega)
  generalize regD t = R at *
  obtain ⟨v, hv⟩ : ∃ v, eget e2 4 = v := ⟨_, rfl⟩
  rw [hv] at hsl hmine
  show Res (run T (.seq (.keep [1, 2, 3, 4]) (tb 7)) e2 s2) _
  rw [run_keep]
  have h5 : eget (keepE [1, 2, 3, 4] e2) 1 = .ptr b 0 ∧ eget (keepE [1, 2, 3, 4] e2) 2 = .ptr r 0 ∧ eget (keepE [1, 2, 3, 4] e2) 3 = .int .i64 (k : Int) ∧ eget (keepE [1, 2, 3, 4] e2) 4 = v := by simp [keepE, eget, g1, g2, g3, hv]
  generalize keepE [1, 2, 3, 4] e2 = e3 at h5
  obtain ⟨g1, g2, g3, g4⟩ := h5
  have hz := toBytes_u8s R
  refine cut (c := tb 7) rfl (by intro l; simp [tb, B.chaseref03_Draft_Token, ab_seq]) (fun x e' s' => x = .norm ∧ s' = ⟨(s2.nx, .cells 134 true [.int .i64 (k : Int), .int .i64 0, .str R]) :: s2.h, s2.nx + 1⟩ ∧ eget e' 1 = .ptr b 0 ∧ eget e' 2 = .ptr r 0 ∧ eget e' 3 = .int .i64 (k : Int) ∧ eget e' 6 = .ptr s2.nx 0) ?_ ?_
  · simp only [tb, B.chaseref03_Draft_Token, ab_seq]
    rcases hsl.rd with ⟨h1, h2, h3⟩ | ⟨n, off, cp, h1, h2⟩
    · have : R = [] := List.length_eq_zero_iff.1 h2
      subst this
      subst h1
      simp [go_sem, RO.run, NO.run, WO.run, wr_tok, g1, g2, g3, g4]
    · subst h1
      rw [Nat.mul_one] at h2
      simp [go_sem, RO.run, NO.run, WO.run, wr_tok, g1, g2, g3, g4, h2, hz]
  rintro _ e4 s4 ⟨rfl, hst, g1, g2, g3, g6⟩
  rw [kSeq_norm, hst]
  clear hst
  have y1 := x2.trans (Ext.new x2.wf (.cells 134 true [.int .i64 (k : Int), .int .i64 0, .str R]))
  have hm : hget ((s2.nx, AObj.cells 134 true [.int .i64 (k : Int), .int .i64 0, .str R]) :: s2.h) s2.nx = some (.cells 134 true [.int .i64 (k : Int), .int .i64 0, .str R]) := by simp [hget_cons]
  have hm0 := x2.nx
  generalize hS : (⟨(s2.nx, AObj.cells 134 true [.int .i64 (k : Int), .int .i64 0, .str R]) :: s2.h, s2.nx + 1⟩ : St) = sA at y1 ⊢
  rw [show (s2.nx, AObj.cells 134 true [.int .i64 (k : Int), .int .i64 0, .str R]) :: s2.h = sA.h by rw [← hS]] at hm
  clear hS
  generalize s2.nx = m at *
  have gb := y1.get' hbl hb
  refine cut (c := tb 8) rfl (by intro l; simp [tb, B.chaseref03_Draft_Token, ab_seq]) (fun x e' s' => x = .norm ∧ Ext stA s' ∧ eget e' 2 = .ptr r 0 ∧ eget e' 6 = .ptr m 0 ∧ hget s'.h m = some (.cells 134 true [.int .i64 (k : Int), .int .i64 0, .str (if k = 3 ∧ rightT 3 0 R = false then nameD K else R)])) ?_ ?_
  · simp only [tb, B.chaseref03_Draft_Token, ab_seq]
    by_cases h3 : k = 3
    · subst h3
      simp [go_sem, RO.run, g1, g2, g3, g6, tok_rd hm]
      refine (refRight_tells H.chaseref03_Right y1.wf (by omega)).use fun s5 x5 => ?_
      have y5 := y1.trans x5
      have hm5 := x5.get y1.wf hm
      have gb5 := y5.get' hbl hb
      cases hrt : rightT 3 0 R with
      | true => simp [go_sem, g1, g2, g3, g6, hrt, y5, hm5]
      | false =>
        obtain ⟨q, s, n1, n2, n3, n4, n5⟩ := nameD_eq hK
        have y6 := y5.trans (Ext.new y5.wf (.cells 9 false [.str [97], .str [91], .str [93], .str [60, 60], .str [62, 62], .str [120, 45, 49], .str [61]]))
        have hm6 := (Ext.new y5.wf (.cells 9 false [.str [97], .str [91], .str [93], .str [60, 60], .str [62, 62], .str [120, 45, 49], .str [61]])).get y5.wf hm5
        have hmne : ¬ s5.nx = m := by have := y5.wf.lt _ _ hm5; omega
        have hbne : ¬ s5.nx = b := by have := y5.wf.lt _ _ gb5; omega
        have hw : wrCells ((s5.nx, AObj.cells 9 false [.str [97], .str [91], .str [93], .str [60, 60], .str [62, 62], .str [120, 45, 49], .str [61]]) :: s5.h) m 2 [.str (nameD K)] = some (hset ((s5.nx, AObj.cells 9 false [.str [97], .str [91], .str [93], .str [60, 60], .str [62, 62], .str [120, 45, 49], .str [61]]) :: s5.h) m (.cells 134 true [.int .i64 3, .int .i64 0, .str (nameD K)])) := wr_cells hm6 rfl (by simp)
        have y7 := y6.setNew hm6 (o := .cells 134 true [.int .i64 3, .int .i64 0, .str (nameD K)]) (by omega)
        have hm7 := hget_hset_self (o := .cells 134 true [.int .i64 3, .int .i64 0, .str (nameD K)]) hm6
        generalize nameD K = W at *
        have : s = 0 ∨ s = 1 ∨ s = 2 ∨ s = 3 ∨ s = 4 ∨ s = 5 ∨ s = 6 := by omega
        rcases this with rfl | rfl | rfl | rfl | rfl | rfl | rfl <;> simp at n5 <;> subst n5 <;>
          simp [go_sem, RO.run, NO.run, WO.run, g1, g2, g3, g6, hrt, gb5, hbne, n1, n2, n3, rdCell, hget_cons, hw, y7, hm7]
    · rcases hk with rfl | rfl | rfl
      · exact absurd rfl h3
      · simp [go_sem, g1, g2, g3, g6, y1, hm]
      · simp [go_sem, g1, g2, g3, g6, y1, hm]
  rintro _ e5 s5 ⟨rfl, y5, g2, g6, hm5⟩
  rw [kSeq_norm]
  have gr5 := y5.get' hrl hr
  have hw := wr_all (vs := [.int .i64 (k : Int), .int .i64 0, .str (if k = 3 ∧ rightT 3 0 R = false then nameD K else R)]) gr5 rfl rfl
  have z := (hx0.trans y5).setNew gr5 (o := .cells 134 true [.int .i64 (k : Int), .int .i64 0, .str (if k = 3 ∧ rightT 3 0 R = false then nameD K else R)]) hr0
  have hq := hget_hset_self (o := .cells 134 true [.int .i64 (k : Int), .int .i64 0, .str (if k = 3 ∧ rightT 3 0 R = false then nameD K else R)]) gr5
  generalize (if k = 3 ∧ rightT 3 0 R = false then nameD K else R) = W at *
  simp only [tb, B.chaseref03_Draft_Token, ab_seq]
  simp [go_sem, RO.run, WO.run, g2, g6, tok_rd hm5, hw, z, hq]

end Go.Ev

/- The token of a draft; LexTexts. -/
namespace Go.Ev
open Go
set_option linter.unusedSimpArgs false
set_option linter.unusedSectionVars false
set_option linter.unusedVariables false

variable {T : Tab} {st : St}

theorem token_tells (H : B.H_chaseref03_Draft_Token T) (hwf : st.Wf) {K : Nat} {N : Int} {t : List UInt8} (hK : K < 256) (hN0 : -2147483648 ≤ N) (hN1 : N ≤ 2147483647) (ht : t.length < 4000000000000000000) :
    Tells T st (.fn 127 [] []) [.agg [.int .u8 (K : Int), .int .i32 N, .str t]] (.agg [.int .i64 (draftT K N t).1, .int .i64 (draftT K N t).2.1, .str (draftT K N t).2.2]) := by
  refine tells_of H.e H.f rfl ?_
  have hxa := Ext.new hwf (.cells 205 true [.int .u8 (K : Int), .int .i32 N, .str t])
  have hx := hxa.trans (Ext.new hxa.wf (.cells 134 true [.int .i64 0, .int .i64 0, .str []]))
  simp only [Nat.add_assoc, Nat.reduceAdd] at hx
  have hb : hget ((st.nx + 1, AObj.cells 134 true [.int .i64 0, .int .i64 0, .str []]) :: (st.nx, .cells 205 true [.int .u8 (K : Int), .int .i32 N, .str t]) :: st.h) st.nx = some (.cells 205 true [.int .u8 (K : Int), .int .i32 N, .str t]) := by simp [hget_cons]
  have hr : hget ((st.nx + 1, AObj.cells 134 true [.int .i64 0, .int .i64 0, .str []]) :: (st.nx, .cells 205 true [.int .u8 (K : Int), .int .i32 N, .str t]) :: st.h) (st.nx + 1) = some (.cells 134 true [.int .i64 0, .int .i64 0, .str []]) := by simp [hget_cons]
  refine cut (c := tb 0) rfl (by intro l; simp [tb, B.chaseref03_Draft_Token, ab_seq]) (fun x e' s' => x = .norm ∧ s' = ⟨(st.nx + 1, .cells 134 true [.int .i64 0, .int .i64 0, .str []]) :: (st.nx, .cells 205 true [.int .u8 (K : Int), .int .i32 N, .str t]) :: st.h, st.nx + 2⟩ ∧ eget e' 1 = .ptr st.nx 0 ∧ eget e' 2 = .ptr (st.nx + 1) 0) ?_ ?_
  · simp only [tb, B.chaseref03_Draft_Token, ab_seq]
    simp [go_sem, NO.run, AV.nb, Nat.add_assoc]
  rintro _ e1 s1 ⟨rfl, hst, g1, g2⟩
  rw [kSeq_norm, hst]
  clear hst
  have hr0 : st.nx ≤ st.nx + 1 := Nat.le_succ _
  generalize hS : (⟨(st.nx + 1, .cells 134 true [.int .i64 0, .int .i64 0, .str []]) :: (st.nx, .cells 205 true [.int .u8 (K : Int), .int .i32 N, .str t]) :: st.h, st.nx + 2⟩ : St) = sA at hx ⊢
  rw [show (st.nx + 1, AObj.cells 134 true [.int .i64 0, .int .i64 0, .str []]) :: (st.nx, .cells 205 true [.int .u8 (K : Int), .int .i32 N, .str t]) :: st.h = sA.h by rw [← hS]] at hb hr
  clear hS hxa
  generalize st.nx + 1 = r at *
  obtain ⟨b, hbn⟩ : ∃ b, b = st.nx := ⟨_, rfl⟩
  rw [← hbn] at hb g1
  clear hbn
  have hm : (K : Int).tmod 8 = ((K % 8 : Nat) : Int) := by rw [Int.tmod_eq_emod_of_nonneg (by omega)]; omega
  have hlt : K % 8 < 8 := Nat.mod_lt _ (by omega)
  refine cut (c := tb 1) rfl (by intro l; simp [tb, B.chaseref03_Draft_Token, ab_seq]) (fun x e' s' => x = .norm ∧ s' = sA ∧ eget e' 1 = .ptr b 0 ∧ eget e' 2 = .ptr r 0 ∧ eget e' 3 = .int .i64 ((1 + K % 8 : Nat) : Int)) ?_ ?_
  · have w1 : IntKind.i64.wrap ((K % 8 : Nat) : Int) = ((K % 8 : Nat) : Int) := wrap64' (by omega) (by omega)
    have w2 : IntKind.i64.wrap (1 + ((K % 8 : Nat) : Int)) = 1 + ((K % 8 : Nat) : Int) := wrap64' (by omega) (by omega)
    have hk0 := rd_at (k := 0) hb rfl
    generalize K % 8 = q at *
    simp only [tb, B.chaseref03_Draft_Token, ab_seq]
    simp [go_sem, RO.run, g1, g2, hk0, hm, w1, w2]
  rintro _ e2 s2 ⟨rfl, hst, g1, g2, g3⟩
  rw [kSeq_norm, hst]
  clear hst
  have h1 := rd_at (k := 1) hb rfl
  have h2 := rd_at (k := 2) hb rfl
  have wN : IntKind.i64.wrap N = N := wrap64' (by omega) (by omega)
  have hlen : ((min t.length 60 : Nat) : Int) = if (60 : Int) < t.length then 60 else (t.length : Int) := by split <;> omega
  have hsub : asubS t none (some (.int .i64 ((min t.length 60 : Nat) : Int))) = some (.str (t.take 60)) := by
    rw [asubS_to (by omega) (by omega)]; simp [Nat.min_comm]
  obtain ⟨OUT, hO⟩ : ∃ O, O = draftT K N t := ⟨_, rfl⟩
  rw [← hO]
  have hw := fun (a c : Int) (d : List UInt8) => tok_wr (k' := a) (n' := c) (t' := d) hr
  have hset' := fun (a c : Int) (d : List UInt8) => hx.setNew hr (o := .cells 134 true [.int .i64 a, .int .i64 c, .str d]) hr0
  have hself := fun (a c : Int) (d : List UInt8) => hget_hset_self (o := .cells 134 true [.int .i64 a, .int .i64 c, .str d]) hr
  refine Res.mono (Q := fun x e' s' => x = .ret ∧ Ext st s' ∧ eget e' 2 = .ptr r 0 ∧ hget s'.h r = some (.cells 134 true [.int .i64 OUT.1, .int .i64 OUT.2.1, .str OUT.2.2])) ?_ ?_
  rotate_left
  · rintro x e' s' ⟨rfl, x1, k2, kr⟩
    refine ⟨.inr rfl, ?_⟩
    simp [B.chaseref03_Draft_Token, fresults, resVals, resVal, go_sem, k2, RO.run, tok_rd kr, x1]
  refine cut (c := tb 2) rfl (by intro l; simp [tb, B.chaseref03_Draft_Token, ab_seq]) (fun x e' s' => (x = .ret ∧ Ext st s' ∧ eget e' 2 = .ptr r 0 ∧ hget s'.h r = some (.cells 134 true [.int .i64 OUT.1, .int .i64 OUT.2.1, .str OUT.2.2])) ∨ ((K % 8 = 2 ∨ K % 8 = 3 ∨ K % 8 = 4) ∧ x = .norm ∧ s' = sA ∧ eget e' 1 = .ptr b 0 ∧ eget e' 2 = .ptr r 0 ∧ eget e' 3 = .int .i64 ((1 + K % 8 : Nat) : Int))) ?_ ?_
  · unfold draftT at hO
    simp only [tb, B.chaseref03_Draft_Token, ab_seq]
    have hq : K % 8 = 0 ∨ K % 8 = 1 ∨ K % 8 = 2 ∨ K % 8 = 3 ∨ K % 8 = 4 ∨ K % 8 = 5 ∨ K % 8 = 6 ∨ K % 8 = 7 := by omega
    rcases hq with hq | hq | hq | hq | hq | hq | hq | hq <;> rw [hq] at hO g3 ⊢
    · simp at hO
      subst hO
      simp [go_sem, RO.run, WO.run, g1, g2, g3, h1, h2, wN, hw, hset', hself]
    · simp at hO
      subst hO
      simp [go_sem, RO.run, WO.run, g1, g2, g3, h1, h2, wN, hw, hset', hself]
    · simp [go_sem, RO.run, WO.run, g1, g2, g3]
    · simp [go_sem, RO.run, WO.run, g1, g2, g3]
    · simp [go_sem, RO.run, WO.run, g1, g2, g3]
    · simp at hO
      subst hO
      rw [hlen] at hsub
      simp [go_sem, RO.run, WO.run, g1, g2, g3, h1, h2, hsub, hw, hset', hself]
    · simp at hO
      subst hO
      simp [go_sem, RO.run, WO.run, g1, g2, g3, hw, hset', hself]
    · simp at hO
      subst hO
      simp [go_sem, RO.run, WO.run, g1, g2, g3, hw, hset', hself]
  rintro x e3 s3 (⟨rfl, h⟩ | ⟨hq, rfl, hst, g1, g2, g3⟩)
  · exact ⟨rfl, h⟩
  rw [kSeq_norm, hst]
  refine (token_tail H hK ht hx hb hr hr0 (k := 1 + K % 8) (by omega) g1 g2 g3).mono ?_
  rintro x e' s' ⟨rfl, x1, k2, kr⟩
  refine ⟨rfl, x1, k2, ?_⟩
  have hOO : OUT = (((1 + K % 8 : Nat) : Int), 0, if 1 + K % 8 = 3 ∧ rightT 3 0 (regD t) = false then nameD K else regD t) := by
    rw [hO]
    unfold draftT
    rw [if_neg (by omega), if_neg (by omega), if_neg (by omega)]
    by_cases hc : K % 8 = 2 ∧ rightT 3 0 (regD t) = false
    · rw [if_pos hc, if_pos ⟨by omega, hc.2⟩, hc.1]; rfl
    · rw [if_neg hc, if_neg (fun h => hc ⟨by omega, h.2⟩)]; simp
  rw [hOO]
  exact kr

end Go.Ev

/- LexTexts: the law told. -/
namespace Go.Ev
open Go
set_option linter.unusedSimpArgs false
set_option linter.unusedSectionVars false
set_option linter.unusedVariables false

variable {T : Tab} {st : St}

theorem seq8_self (s : List UInt8) : seq8 s s = true := by rw [seq8_eq]; simp

theorem texts_step (H : B.H_chaselaw03_LexTexts T) {st0 st1 : St} (hw0 : st0.Wf) (hp : Pow st0) (hx : Ext st0 st1) {k0 n0 k1 n1 k2 n2 k3 n3 : Int} {t0 t1 t2 t3 : List UInt8} {k n : Int} {t : List UInt8} (ht : t.length ≤ 1100) {i : Nat}
    (hsel : (i = 0 ∧ k0 = k ∧ n0 = n ∧ t0 = t) ∨ (i = 1 ∧ k1 = k ∧ n1 = n ∧ t1 = t) ∨ (i = 2 ∧ k2 = k ∧ n2 = n ∧ t2 = t) ∨ (i = 3 ∧ k3 = k ∧ n3 = n ∧ t3 = t)) {e : Env}
    (g36 : eget e 36 = .agg [.int .i64 k0, .int .i64 n0, .str t0, .int .i64 k1, .int .i64 n1, .str t1, .int .i64 k2, .int .i64 n2, .str t2, .int .i64 k3, .int .i64 n3, .str t3]) (g37 : eget e 37 = .int .i64 (i : Int)) {Q : Ex → Env → St → Prop}
    (hfin : ∀ e' s', Ext st0 s' → eget e' 36 = eget e 36 → eget e' 37 = .int .i64 ((i + 1 : Nat) : Int) → Res (run T (.loop B.chaselaw03_LexTexts_l0) e' s') Q) :
    Res (run T (.loop B.chaselaw03_LexTexts_l0) e st1) Q := by
  have x1 := hx.trans (Ext.new hx.wf (.cells 134 true [.int .i64 k, .int .i64 n, .str t]))
  have g1 : hget ((st1.nx, AObj.cells 134 true [.int .i64 k, .int .i64 n, .str t]) :: st1.h) st1.nx = some (.cells 134 true [.int .i64 k, .int .i64 n, .str t]) := by simp [hget_cons]
  have hb := right_bound (k := k) (n := n) (t := t)
  rw [g36] at hfin
  rcases hsel with ⟨rfl, e1, e2, e3⟩ | ⟨rfl, e1, e2, e3⟩ | ⟨rfl, e1, e2, e3⟩ | ⟨rfl, e1, e2, e3⟩
  all_goals
    rw [run_loop]
    simp [B.chaselaw03_LexTexts_l0, go_sem, NO.run, WO.run, RO.run, g36, g37, e1, e2, e3, wr_tok, rd_tok]
    refine (lexText_tells H.lex_Text x1.wf (hp.ext x1 hw0) (by omega)).use fun s2 x2 => ?_
    have y2 := x1.trans x2
    have g2 := x2.get x1.wf g1
    simp [go_sem, RO.run, tok_rd g2]
    refine (refRight_tells H.chaseref03_Right y2.wf (by omega)).use fun s3 x3 => ?_
    have y3 := y2.trans x3
    have g3 := x3.get y2.wf g2
    cases hr : rightT k n t with
    | false =>
      simp [go_sem, RO.run, tok_rd g3, hr]
      refine (check_tells H.lex_Check y3.wf (by omega)).use fun s4 x4 => ?_
      simp [go_sem, hr, seq8]
      exact hfin _ _ (y3.trans x4) (by simp [go_sem, g36, e1, e2, e3]) (by simp [go_sem, g37]; rfl)
    | true =>
      simp [go_sem, RO.run, tok_rd g3, hr]
      refine (check_tells H.lex_Check y3.wf (by omega)).use fun s4 x4 => ?_
      have y4 := y3.trans x4
      have g4 := x4.get y3.wf g3
      simp [go_sem, hr, RO.run, tok_rd g4]
      refine (refText_tells H.chaseref03_Text y4.wf (by omega) (hb hr)).use fun s5 x5 => ?_
      simp [go_sem, hr, seq8_self]
      exact hfin _ _ (y4.trans x5) (by simp [go_sem, g36, e1, e2, e3]) (by simp [go_sem, g37]; rfl)

theorem texts_l0 (H : B.H_chaselaw03_LexTexts T) {st0 st1 : St} (hw0 : st0.Wf) (hp : Pow st0) (hx : Ext st0 st1) {k0 n0 k1 n1 k2 n2 k3 n3 : Int} {t0 t1 t2 t3 : List UInt8} (h0 : t0.length ≤ 1100) (h1 : t1.length ≤ 1100) (h2 : t2.length ≤ 1100) (h3 : t3.length ≤ 1100) {e : Env}
    (g36 : eget e 36 = .agg [.int .i64 k0, .int .i64 n0, .str t0, .int .i64 k1, .int .i64 n1, .str t1, .int .i64 k2, .int .i64 n2, .str t2, .int .i64 k3, .int .i64 n3, .str t3]) (g37 : eget e 37 = .int .i64 0) :
    Res (run T (.loop B.chaselaw03_LexTexts_l0) e st1) fun x e' s' => x = .exit 0 ∧ Ext st0 s' := by
  refine texts_step H hw0 hp hx h0 (i := 0) (.inl ⟨rfl, rfl, rfl, rfl⟩) g36 g37 fun e1 s1 x1 j36 j37 => ?_
  rw [g36] at j36
  refine texts_step H hw0 hp x1 h1 (i := 1) (.inr (.inl ⟨rfl, rfl, rfl, rfl⟩)) j36 j37 fun e2 s2 x2 l36 l37 => ?_
  rw [j36] at l36
  refine texts_step H hw0 hp x2 h2 (i := 2) (.inr (.inr (.inl ⟨rfl, rfl, rfl, rfl⟩))) l36 l37 fun e3 s3 x3 m36 m37 => ?_
  rw [l36] at m36
  refine texts_step H hw0 hp x3 h3 (i := 3) (.inr (.inr (.inr ⟨rfl, rfl, rfl, rfl⟩))) m36 m37 fun e4 s4 x4 o36 o37 => ?_
  rw [run_loop]
  simp [B.chaselaw03_LexTexts_l0, go_sem, o37, x4]

theorem draft_len (K : Nat) (N : Int) (t : List UInt8) : (draftT K N t).2.2.length ≤ 60 := by
  have h1 : (regD t).length ≤ 20 := by
    unfold regD
    exact Nat.le_trans (List.length_filter_le _ _) (by rw [List.length_take]; omega)
  have h2 : (nameD K).length ≤ 3 := by unfold nameD; split <;> simp
  unfold draftT
  split
  · simp
  · split
    · simp; omega
    · split
      · simp
      · split
        · simp only; omega
        · simp only; omega

theorem texts_tells (H : B.H_chaselaw03_LexTexts T) (hwf : st.Wf) (hp : Pow st) {k n : Int} {t : List UInt8} (ht : t.length ≤ 140737488351232) {K : Nat} (hK : K < 256) {N : Int} (hN0 : -2147483648 ≤ N) (hN1 : N ≤ 2147483647) {s : List UInt8} (hs : s.length ≤ 140737488351232) {c : Int} :
    Tells T st (.fn 124 [] []) [.agg [.int .i64 k, .int .i64 n, .str t], .agg [.int .u8 (K : Int), .int .i32 N, .str s], .int .i64 c] (.bool true) := by
  refine tells_of H.e H.f rfl ?_
  have xa := Ext.new hwf (.cells 134 true [.int .i64 k, .int .i64 n, .str t])
  have xb := xa.trans (Ext.new xa.wf (.cells 205 true [.int .u8 (K : Int), .int .i32 N, .str s]))
  simp only [Nat.add_assoc, Nat.reduceAdd] at xb
  have ga : hget ((st.nx + 1, AObj.cells 205 true [.int .u8 (K : Int), .int .i32 N, .str s]) :: (st.nx, .cells 134 true [.int .i64 k, .int .i64 n, .str t]) :: st.h) st.nx = some (.cells 134 true [.int .i64 k, .int .i64 n, .str t]) := by simp [hget_cons]
  have gb : hget ((st.nx + 1, AObj.cells 205 true [.int .u8 (K : Int), .int .i32 N, .str s]) :: (st.nx, .cells 134 true [.int .i64 k, .int .i64 n, .str t]) :: st.h) (st.nx + 1) = some (.cells 205 true [.int .u8 (K : Int), .int .i32 N, .str s]) := by simp [hget_cons]
  simp [B.chaselaw03_LexTexts, go_sem, NO.run, AV.nb, Nat.add_assoc]
  refine (works_tells H.chaselaw03_works xb.wf).use fun s1 x1 => ?_
  have y1 := xb.trans x1
  have ga1 := x1.get xb.wf ga
  have gb1 := x1.get xb.wf gb
  clear ga gb
  have ra := rd_at (k := 2) ga1 rfl
  have hlen : (if (1100 : Int) < (t.length : Int) then 1100 else (t.length : Int)) = ((min t.length 1100 : Nat) : Int) := by split <;> omega
  have hsub : asubS t none (some (.int .i64 ((min t.length 1100 : Nat) : Int))) = some (.str (t.take 1100)) := by
    rw [asubS_to (by omega) (by omega)]; simp [Nat.min_comm]
  have htk : (t.take 1100).length ≤ 1100 := by rw [List.length_take]; omega
  have hw := wr_cells (v := .str (t.take 1100)) (o := 2) ga1 rfl (by simp)
  have f1 := Frm.set y1.wf ga1 (o := .cells 134 true [.int .i64 k, .int .i64 n, .str (t.take 1100)])
  have y2 := y1.frm f1 (by simp)
  have gb2 := f1.get y1.wf gb1 (by simp)
  have ga2 := hget_hset_self (o := .cells 134 true [.int .i64 k, .int .i64 n, .str (t.take 1100)]) ga1
  simp only [List.set_cons_succ, List.set_cons_zero] at hw
  have ds := draft_len K N s
  generalize t.take 1100 = tt at *
  simp [go_sem, RO.run, WO.run, ra, hlen, hsub, hw]
  generalize hS : (⟨hset s1.h st.nx (.cells 134 true [.int .i64 k, .int .i64 n, .str tt]), s1.nx⟩ : St) = sB at y2 ⊢
  rw [show hset s1.h st.nx (.cells 134 true [.int .i64 k, .int .i64 n, .str tt]) = sB.h by rw [← hS]] at gb2 ga2
  rw [show hset s1.h st.nx (.cells 134 true [.int .i64 k, .int .i64 n, .str tt]) = sB.h by rw [← hS]]
  clear hS hw f1
  have rb : rdCells sB.h (st.nx + 1) 0 3 = some [.int .u8 (K : Int), .int .i32 N, .str s] := rd_all gb2 rfl
  simp [go_sem, RO.run, rb]
  refine (token_tells H.chaseref03_Draft_Token y2.wf hK hN0 hN1 (by omega)).use fun s2 x2 => ?_
  have y3 := y2.trans x2
  have ga3 := x2.get y2.wf ga2
  have hlt := y3.wf.lt _ _ ga3
  generalize draftT K N s = D at *
  have z1 := y3.trans (Ext.new y3.wf (.cells 134 true [.int .i64 D.1, .int .i64 D.2.1, .str D.2.2]))
  have z2 := z1.trans (Ext.new z1.wf (.cells 134 true [.int .i64 D.1, .int .i64 c, .str D.2.2]))
  have z3 := z2.trans (Ext.new z2.wf (.cells 134 true [.int .i64 c, .int .i64 D.2.1, .str D.2.2]))
  simp only [Nat.add_assoc, Nat.reduceAdd] at z2 z3
  have q1 : ¬ s2.nx = st.nx := by omega
  have q2 : ¬ s2.nx + 1 = st.nx := by omega
  have q3 : ¬ s2.nx + 2 = st.nx := by omega
  simp [go_sem, NO.run, RO.run, WO.run, wr_tok, rd_tok, wrCells, rdCells, hget_cons, hset_cons, splice, Nat.add_assoc, ga3, q1, q2, q3]
  refine (texts_l0 H hwf hp z3 (k0 := k) (n0 := n) (t0 := tt) (k1 := D.1) (n1 := D.2.1) (t1 := D.2.2) (k2 := D.1) (n2 := c) (t2 := D.2.2) (k3 := c) (n3 := D.2.1) (t3 := D.2.2) htk (by omega) (by omega) (by omega) (by simp [go_sem]) (by simp [go_sem])).mono ?_
  rintro x e s3 ⟨rfl, x3⟩
  simp [go_sem, x3]

end Go.Ev

/- Structs of two numbers and a text among the arguments; a table of the library among the objects. -/
namespace Go.Ev
open Go Go.RowKit Go.ChangeShapes Go.WideShapes Go.Deep Go.Joins
set_option linter.unusedVariables false
set_option linter.unusedSimpArgs false

def nuGlob (g : Nat) : Nu := ⟨fun n => if n = 2 then some ⟨g, 0, none⟩ else none, fun _ => 0⟩
def stGlob (k : Nat) (cs : List AV) : St := ⟨[(2, .glob k cs)], 3⟩
def powAV : List AV := Lib.pow10Tab.map fun z => .int .u64 z

theorem stGlob_wf (k : Nat) (cs : List AV) : (stGlob k cs).Wf := ⟨(fun n o h => by
  simp only [stGlob, hget] at h ⊢
  split at h
  · rename_i e; omega
  · cases h), (by simp [stGlob])⟩
theorem stGlob_pow : Pow (stGlob B.gPow10 powAV) := ⟨2, powAV, by simp [stGlob, hget], by simp [powAV, B.av64]⟩

theorem vrs_ints {X : Cx} {N : Nu} : ∀ zs : List Int, VRs X N (zs.map fun z => .int .u64 z) (zs.map fun z => Value.int .u64 z)
  | [] => rfl
  | z :: zs => ⟨_, _, rfl, rfl, vrs_ints zs⟩

theorem sr_glob {X : Cx} {w : World} {k : Nat} {name : String} (hname : X.P.globalNamed name = some (X.γ k)) (h : Lib.TabIs X.P w name .u64 Lib.pow10Tab) : SR chkD X (nuGlob (X.γ k)) (stGlob k powAV) w := by
  unfold Lib.TabIs World.var? at h
  rw [hname] at h
  simp only [Option.bind_some] at h
  refine ⟨⟨?_, ?_⟩, ?_⟩
  · intro n o ho
    simp only [stGlob, hget] at ho
    split at ho
    · rename_i e
      subst e
      injection ho with ho
      subst ho
      split at h
      · rename_i cs t fz hc
        refine ⟨cs, t, fz, by simp [nuGlob], hc, ?_⟩
        injection h with h
        rw [h]
        exact vrs_ints _
      · cases h
    · cases ho
  · intro n m o p x y h1 h2 h3
    simp only [stGlob, hget] at h1
    split at h1
    · injection h1 with h1; subst h1; cases h3
    · cases h1
  · intro n hn
    simp only [stGlob] at hn
    simp only [nuGlob]
    rw [if_neg (by omega)]
theorem own_glob {g k : Nat} {cs : List AV} (b : Nat) : ¬ Own (nuGlob g) (stGlob k cs).h b := fun ⟨n, o, x, h1, h2, _⟩ => by
  simp only [stGlob, hget] at h1
  split at h1
  · injection h1 with h1; subst h1; cases h2
  · cases h1

/-- A struct of two numbers and a text. -/
theorem three_open {H : Type} {enc : TypeId × Value → H} {P : Program} {w : World} {base : Nat} {spare : Nat → Bool} {held : Bool} {r : Reach} {b0 : Nat} {t : TypeId} {f0 f1 f2 : Field} {k0 k1 : IntKind} {v : Value} {d : DataW H} {p : List MemPlace}
    (hs : P.underlying t = some (.struct #[f0, f1, f2])) (hone : oneCellFields P #[f0, f1, f2] = true) (hC : P.cellsOf t = 3) (h0 : P.underlying f0.type = some (.int k0)) (h1 : P.underlying f1.type = some (.int k1)) (h2 : P.underlying f2.type = some .string)
    (hv : Value.okWide P w r b0 t v) (h : DataW.Trod enc P w base spare held t v d p) :
    ∃ (a b : Int) (s : ByteArray), v = .agg #[.int k0 a, .int k1 b, .string s] ∧ d = .agg [.lit (.int k0 a), .lit (.int k1 b), .lit (.string s.data.toList)] ∧ p = [] ∧ (Lit.int k0 a).wf = true ∧ (Lit.int k1 b).wf = true := by
  obtain ⟨v0, v1, v2, y0, y1, y2, n, rfl, rfl, rfl, q0, q1, q2⟩ := open_agg3 hs hone hC hv h
  obtain ⟨a, e0, rfl, wa⟩ := DataW.trod_int h0 q0
  obtain ⟨b, e1, rfl, wb⟩ := DataW.trod_int h1 q1
  obtain ⟨s, e2, rfl, _⟩ := DataW.trod_string h2 q2
  simp only [List.cons.injEq, and_true] at e0 e1 e2
  subst e0 e1 e2
  exact ⟨a, b, s, rfl, rfl, rfl, wa, wb⟩

theorem wf_i32 {n : Int} (h : (Lit.int .i32 n).wf = true) : -2147483648 ≤ n ∧ n ≤ 2147483647 := by
  simp [Lit.wf, IntKind.min, IntKind.max, IntKind.signed, IntKind.bits] at h
  omega

/-- The text in a struct is not longer than what a machine holds. -/
theorem sized_three {H : Type} {P : Program} {ts : List TypeId} {ds : List (DataW H)} (h : (DataW.weightsEach P ts ds).all (· ≤ reachBytes) = true) {j : Nat} {t : TypeId} {f0 f1 f2 : Field} {l0 l1 : Lit} {bytes : List UInt8} (ht : ts[j]? = some t)
    (hs : P.underlying t = some (.struct #[f0, f1, f2])) (hd : ds[j]? = some (.agg [.lit l0, .lit l1, .lit (.string bytes)])) : bytes.length ≤ reachBytes := by
  have := List.all_eq_true.1 h _ (DataW.weights_mem_each ht hd bytes.length (by
    simp only [DataW.weights, hs, List.map_cons, List.map_nil, DataW.weightsEach, List.mem_append, List.append_nil]
    exact .inr (.inr (by simp))))
  simpa using this

/-- The third of the listed variables is the table. -/
theorem pow_of_laid {P : Program} {W : World} {x y : String × DataW Unit} {name : String} {d : DataW Unit} {g : Nat} {t e : TypeId} {n : Nat} (hp : laidMetH P [x, y, (name, d)] W → laidMet P [x, y, (name, d)] W)
    (hd : d = Lib.tabData .u64 Lib.pow10Tab) (hg : P.globalNamed name = some g) (hty : (P.globals[g]?).map (·.type) = some t) (ht : P.underlying t = some (.array n e)) (he : P.underlying e = some (.int .u64)) (hce : P.cellsOf e = 1) (hct : P.cellsOf t = n)
    (h : laidMetH P [x, y, (name, d)] W) : Lib.TabIs P W name .u64 Lib.pow10Tab := by
  subst hd
  exact Lib.tabIs_of_head hg hty ht he hce hct (laidMet.tail (laidMet.tail (hp h)))

end Go.Ev

/- The plain law of LexBack: quoted strings, names and ints are read back. -/
namespace Go.Ev
open Go
set_option linter.unusedSimpArgs false
set_option linter.unusedSectionVars false
set_option linter.unusedVariables false

theorem od_back (c : UInt8) : letter (od2 c) = none ∧ od2 c ≠ 10 ∧ od2 c ≠ 13 ∧ 48 ≤ (od2 c).toNat ∧ (od2 c).toNat ≤ 55 ∧ 48 ≤ (od1 c).toNat ∧ (od1 c).toNat ≤ 55 ∧ 48 ≤ (od0 c).toNat ∧ (od0 c).toNat ≤ 55 ∧
    UInt8.ofNat (8 * (8 * ((od2 c).toNat - 48) + ((od1 c).toNat - 48)) + ((od0 c).toNat - 48)) = c := by
  have h : (List.range 256).all (fun n => let c := UInt8.ofNat n; decide (letter (od2 c) = none) && (decide (od2 c ≠ 10) && (decide (od2 c ≠ 13) && (decide (48 ≤ (od2 c).toNat) && (decide ((od2 c).toNat ≤ 55) && (decide (48 ≤ (od1 c).toNat) && (decide ((od1 c).toNat ≤ 55) && (decide (48 ≤ (od0 c).toNat) && (decide ((od0 c).toNat ≤ 55) &&
    decide (UInt8.ofNat (8 * (8 * ((od2 c).toNat - 48) + ((od1 c).toNat - 48)) + ((od0 c).toNat - 48)) = c)))))))))) = true := by kernel_rfl
  have := all_octets h c
  simpa using this

theorem unq_quoteC (c : UInt8) (R out : List UInt8) (f : Nat) : unq (f + 1) 1 (quoteC c ++ R) out = unq f 1 R (out ++ [c]) := by
  unfold quoteC
  by_cases h1 : c = 40 ∨ c = 41 ∨ c = 92
  · rw [if_pos h1]
    rcases h1 with rfl | rfl | rfl <;> simp [unq, esc, letter]
  · rw [if_neg h1]
    simp only [not_or] at h1
    by_cases h2 : c.toNat < 32 ∨ 126 < c.toNat
    · rw [if_pos h2]
      obtain ⟨a1, a2, a3, a4, a5, a6, a7, a8, a9, a10⟩ := od_back c
      simp only [List.cons_append, List.nil_append]
      rw [unq, if_pos rfl]
      have he : esc (od2 c :: od1 c :: od0 c :: R) = some ([c], 3) := by
        simp only [esc, a1]
        rw [if_neg (by simp [a2, a3]), if_pos ⟨a4, a5⟩]
        simp only [octN]
        rw [if_pos ⟨a6, a7⟩, if_pos ⟨a8, a9⟩]
        simp only [a10]
      rw [he]
      rfl
    · rw [if_neg h2]
      have n10 : c ≠ 10 := by rintro rfl; simp at h2
      have n13 : c ≠ 13 := by rintro rfl; simp at h2
      simp [unq, h1, n10, n13]

theorem unq_quoteS : ∀ (x : List UInt8) (f : Nat) (out rest : List UInt8), x.length + 1 ≤ f → unq f 1 (x.flatMap quoteC ++ 41 :: rest) out = some (out ++ x, rest)
  | [], f + 1, out, rest, _ => by simp [unq]
  | c :: x, f + 1, out, rest, h => by
    rw [List.flatMap_cons, List.append_assoc, unq_quoteC, unq_quoteS x f _ rest (by simp at h; omega)]
    simp

theorem unquote_back {x more : List UInt8} (hx : x.length ≤ 1000) : unquoteT (quoteS x ++ more) = (x, (quoteS x).length, 0) := by
  have hq : quoteS x ++ more = 40 :: (x.flatMap quoteC ++ 41 :: more) := by simp [quoteS]
  have hlen : x.length ≤ (x.flatMap quoteC).length := by
    induction x with
    | nil => simp
    | cons c l ih =>
      have := quoteC_len c
      have := ih (by simp at hx; omega) (by simp [quoteS])
      simp only [List.flatMap_cons, List.length_append, List.length_cons]
      omega
  have hu := unq_quoteS x (40 :: (x.flatMap quoteC ++ 41 :: more)).length [] more (by simp only [List.length_cons, List.length_append]; omega)
  rw [hq]
  simp only [unquoteT, hu, if_true, List.nil_append]
  rw [if_neg (by omega)]
  simp [quoteS]
  omega

theorem quoteS_inj {x y : List UInt8} (hx : x.length ≤ 1000) (hy : y.length ≤ 1000) (h : quoteS x = quoteS y) : x = y := by
  have h1 := unquote_back (more := []) hx
  have h2 := unquote_back (more := []) hy
  rw [h] at h1
  rw [h1] at h2
  exact (Prod.mk.inj h2).1

theorem regAll_filter : ∀ l : List UInt8, regAll (l.filter isReg) = true
  | [] => rfl
  | c :: l => by
    rw [List.filter_cons]
    split
    · rename_i h; simp [regAll, h, regAll_filter l]
    · exact regAll_filter l

/-- The token of a draft is valid. -/
theorem draft_right (K : Nat) {N : Int} (h0 : -2147483648 ≤ N) (h1 : N ≤ 2147483647) (t : List UInt8) : rightT (draftT K N t).1 (draftT K N t).2.1 (draftT K N t).2.2 = true := by
  have hreg : (regD t).length ≤ 20 ∧ regAll (regD t) = true := by
    unfold regD
    refine ⟨Nat.le_trans (List.length_filter_le _ _) (by rw [List.length_take]; omega), ?_⟩
    exact regAll_filter _
  have hname : rightT 3 0 (nameD K) = true := by
    have hk : ([[97], [91], [93], [60, 60], [62, 62], [120, 45, 49], [61]].all fun l => rightT 3 0 l) = true := by kernel_rfl
    refine List.all_eq_true.1 hk _ ?_
    unfold nameD
    split <;> simp
  unfold draftT
  have hlt : K % 8 < 8 := Nat.mod_lt _ (by omega)
  generalize K % 8 = q at *
  have hq : q = 0 ∨ q = 1 ∨ q = 2 ∨ q = 3 ∨ q = 4 ∨ q = 5 ∨ q = 6 ∨ q = 7 := by omega
  rcases hq with rfl | rfl | rfl | rfl | rfl | rfl | rfl | rfl
  · simp [rightT]; omega
  · simp [rightT]; omega
  · by_cases hr : rightT 3 0 (regD t) = false
    · simp [hr]; exact hname
    · simp [hr]
  · simp [rightT, markT, namedT, hreg.2]; omega
  · simp [rightT, markT, namedT, hreg.2]; omega
  · simp [rightT]; omega
  · simp [rightT]
  · simp [rightT]

end Go.Ev

/- The plain law of bases: digits in any base are read back. -/
namespace Go.Ev
open Go
set_option linter.unusedSimpArgs false
set_option linter.unusedSectionVars false
set_option linter.unusedVariables false

def bdig (i : Nat) : UInt8 := if i < 10 then UInt8.ofNat (48 + i) else UInt8.ofNat (55 + i)
/-- The digits in a base. -/
def baseD (b u : Nat) : List UInt8 :=
  if h : u < b ∨ b < 2 then [bdig u] else baseD b (u / b) ++ [bdig (u % b)]
termination_by u
decreasing_by exact Nat.div_lt_self (by omega) (by omega)

theorem baseD_small {b u : Nat} (h : u < b) : baseD b u = [bdig u] := by rw [baseD, dif_pos (.inl h)]
theorem baseD_big {b u : Nat} (hb : 2 ≤ b) (h : ¬ u < b) : baseD b u = baseD b (u / b) ++ [bdig (u % b)] := by rw [baseD, dif_neg (by omega)]

theorem bdig_facts {i : Nat} (h : i < 36) : digV (bdig i) = i ∧ digV (Lib.lowerB (bdig i)) = i ∧ (bdig i).toNat < 128 := by
  have hk : (List.range 36).all (fun i => decide (digV (bdig i) = i) && (decide (digV (Lib.lowerB (bdig i)) = i) && decide ((bdig i).toNat < 128))) = true := by kernel_rfl
  have := List.all_eq_true.1 hk i (List.mem_range.2 h)
  simpa using this

theorem cntFrom_append (C : Nat) (base : Int) : ∀ (X Y : List UInt8) (n : Nat), cntFrom C base n (X ++ Y) = (cntFrom C base n X).bind fun m => cntFrom C base m Y
  | [], Y, n => rfl
  | c :: X, Y, n => by
    simp only [List.cons_append, cntFrom]
    split
    · rfl
    · exact cntFrom_append C base X Y _

theorem cnt_baseD {b : Nat} (hb : 2 ≤ b) (hb2 : b ≤ 36) {C : Nat} (g : UInt8 → UInt8) (hg : ∀ i, i < 36 → digV (g (bdig i)) = i) : ∀ u : Nat, u ≤ C → cntFrom C (b : Int) 0 ((baseD b u).map g) = some u := by
  intro u
  induction u using Nat.strongRecOn with
  | _ u ih =>
    intro hu
    by_cases h : u < b
    · rw [baseD_small h]
      simp only [List.map_cons, List.map_nil, cntFrom]
      rw [hg u (by omega), if_neg (by omega)]
      simp; omega
    · have hlt : u % b < b := Nat.mod_lt _ (by omega)
      have hdm := Nat.div_add_mod u b
      have hq := Nat.div_lt_self (n := u) (k := b) (by omega) (by omega)
      rw [baseD_big hb h, List.map_append, cntFrom_append, ih (u / b) hq (by omega)]
      generalize u / b = q at *
      generalize u % b = r at *
      simp only [Option.bind_some, List.map_cons, List.map_nil, cntFrom]
      rw [hg r (by omega), if_neg (by omega)]
      simp only [Int.toNat_natCast, Option.some.injEq]
      rw [Nat.mul_comm q b]
      omega

theorem baseD_len {b : Nat} (hb : 2 ≤ b) : ∀ (k u : Nat), u < 2 ^ (k + 1) → 1 ≤ (baseD b u).length ∧ (baseD b u).length ≤ k + 1
  | 0, u, h => by rw [baseD_small (by omega)]; simp
  | k + 1, u, h => by
    by_cases h10 : u < b
    · rw [baseD_small h10]; simp
    · have hle : u / b ≤ u / 2 := Nat.div_le_div_left hb (by omega)
      have := baseD_len hb k (u / b) (by rw [Nat.pow_succ] at h; omega)
      rw [baseD_big hb h10, List.length_append, List.length_singleton]
      omega
theorem baseD_ascii {b : Nat} (hb : 2 ≤ b) (hb2 : b ≤ 36) : ∀ u : Nat, ∀ c ∈ baseD b u, c.toNat < 128 := by
  intro u
  induction u using Nat.strongRecOn with
  | _ u ih =>
    intro c hc
    by_cases h : u < b
    · rw [baseD_small h] at hc
      simp at hc
      subst hc
      exact (bdig_facts (by omega)).2.2
    · rw [baseD_big hb h] at hc
      rcases List.mem_append.1 hc with hc | hc
      · exact ih _ (Nat.div_lt_self (by omega) (by omega)) c hc
      · simp at hc
        subst hc
        exact (bdig_facts (by have := Nat.mod_lt u (show 0 < b by omega); omega)).2.2

def frontB (b : Nat) : List UInt8 := if b < 10 then [UInt8.ofNat (48 + b)] else [UInt8.ofNat (48 + b / 10), UInt8.ofNat (48 + b % 10)]

theorem front_facts {b : Nat} (h : 2 ≤ b) (h2 : b ≤ 36) : cntR 10 (frontB b) = b ∧ (b < 10 → (frontB b).length = 1) ∧ (10 ≤ b → (frontB b).length = 2 ∧ (frontB b)[1]? ≠ some 35) ∧ (∃ c r, frontB b = c :: r ∧ c ≠ 45 ∧ c ≠ 43) := by
  have hk : (List.range 37).all (fun b => decide (b < 2) || (decide (cntR 10 (frontB b) = b) && (decide (b < 10 → (frontB b).length = 1) && (decide (10 ≤ b → (frontB b).length = 2 ∧ (frontB b)[1]? ≠ some 35) && (match frontB b with | c :: _ => decide (c ≠ 45) && decide (c ≠ 43) | [] => false))))) = true := by kernel_rfl
  have := List.all_eq_true.1 hk b (List.mem_range.2 (by omega))
  simp only [Bool.or_eq_true, Bool.and_eq_true, decide_eq_true_eq] at this
  rcases this with h0 | ⟨h1, h2, h3, h4⟩
  · omega
  · refine ⟨h1, h2, h3, ?_⟩
    split at h4
    · rename_i c r e
      simp only [Bool.and_eq_true, decide_eq_true_eq] at h4
      exact ⟨c, r, e, h4.1, h4.2⟩
    · cases h4

theorem bases_law {b u : Nat} (hb : 2 ≤ b) (hb2 : b ≤ 36) (hu : u < 2147483648) {S : List UInt8} (hS : S.length ≤ 36) (hS0 : S ≠ []) (hc : cntFrom 8589934592 (b : Int) 0 S = some u) : numT (frontB b ++ 35 :: S) = (1, (u : Int), 0) := by
  obtain ⟨f1, f2, f3, c, r, f4, f5, f6⟩ := front_facts hb hb2
  have hlen : (frontB b).length ≤ 2 := by
    by_cases h : b < 10
    · rw [f2 h]; omega
    · rw [(f3 (by omega)).1]; omega
  have hun : unsign (frontB b ++ 35 :: S) = (frontB b ++ 35 :: S, 1) := by
    rw [f4]
    simp only [List.cons_append]
    unfold unsign
    split
    · rename_i h; injection h with h _; exact absurd h f5
    · rename_i h; injection h with h _; exact absurd h f6
    · rfl
  have hcr : cntR (b : Int) S = u := by unfold cntR; rw [if_neg hS0, hc]
  have hw : wholeT (frontB b ++ 35 :: S) = (0, 0, 5) := by
    rw [whole_law, hun, cntR_35 (by omega) (by simp), if_neg (by omega)]
  have htry : tryR (frontB b ++ 35 :: S) (frontB b).length = some (u : Int) := by
    unfold tryR
    have t1 : (frontB b ++ 35 :: S)[(frontB b).length]? = some 35 := by simp
    have t2 : (frontB b ++ 35 :: S).take (frontB b).length = frontB b := by simp
    have t3 : (frontB b ++ 35 :: S).drop ((frontB b).length + 1) = S := by simp
    rw [t1, t2, t3, f1, hcr, if_pos ⟨rfl, by omega, by omega, by omega⟩]
  have hans : ansT (u : Int) (frontB b ++ 35 :: S).length = (1, (u : Int), 0) := by
    unfold ansT
    rw [if_neg]
    rw [List.length_append, List.length_cons]
    omega
  have hr : radixT (frontB b ++ 35 :: S) = (1, (u : Int), 0) := by
    rw [radix_law]
    by_cases h : b < 10
    · rw [f2 h] at htry
      rw [htry]
      exact hans
    · obtain ⟨g1, g2⟩ := f3 (by omega)
      rw [g1] at htry
      have hn : tryR (frontB b ++ 35 :: S) 1 = none := by
        unfold tryR
        rw [if_neg]
        rintro ⟨h1, _⟩
        rw [List.getElem?_append_left (by omega)] at h1
        exact g2 h1
      rw [hn, htry]
      exact hans
  unfold numT
  rw [hw, if_neg (by simp), hr, if_pos (by simp)]

theorem cnt_zeros {b : Nat} (hb : 2 ≤ b) {C : Nat} (S : List UInt8) : cntFrom C (b : Int) 0 (48 :: 48 :: S) = cntFrom C (b : Int) 0 S := by
  have h0 : digV 48 = 0 := rfl
  simp only [cntFrom, h0]
  rw [if_neg (by omega), if_neg (by omega)]
  simp

end Go.Ev

/- The plain law of LexBack: the decimal texts of ints and reals are read back. -/
namespace Go.Ev
open Go
set_option linter.unusedSimpArgs false
set_option linter.unusedSectionVars false
set_option linter.unusedVariables false

theorem dec_base : ∀ u : Nat, Lib.decDigits u = baseD 10 u := by
  intro u
  induction u using Nat.strongRecOn with
  | _ u ih =>
    have hd : ∀ i, i < 10 → bdig i = UInt8.ofNat (48 + i) := fun i h => by unfold bdig; rw [if_pos h]
    by_cases h : u < 10
    · rw [decDigits_small h, baseD_small h, hd u h]
    · rw [decDigits_big h, baseD_big (by omega) h, ih (u / 10) (by omega), hd _ (Nat.mod_lt _ (by omega))]

theorem regAll_of : ∀ {l : List UInt8}, (∀ c ∈ l, isReg c = true) → regAll l = true
  | [], _ => rfl
  | c :: l, h => by simp [regAll, h c List.mem_cons_self, regAll_of (l := l) fun x hx => h x (List.mem_cons_of_mem _ hx)]

theorem dig_reg {c : UInt8} (h : isDig c = true) : isReg c = true ∧ c ≠ 45 ∧ c ≠ 43 ∧ c ≠ 35 ∧ c ≠ 46 := by
  have hk : (List.range 256).all (fun n => !isDig (UInt8.ofNat n) || (isReg (UInt8.ofNat n) && (decide (UInt8.ofNat n ≠ 45) && (decide (UInt8.ofNat n ≠ 43) && (decide (UInt8.ofNat n ≠ 35) && decide (UInt8.ofNat n ≠ 46)))))) = true := by kernel_rfl
  have := all_octets hk c
  simp only [UInt8.ofNat_toNat, h] at this
  simpa using this
theorem digc {d : Nat} (h : d < 10) : isDig (UInt8.ofNat (48 + d)) = true ∧ (UInt8.ofNat (48 + d)).toNat - 48 = d := by
  have hk : (List.range 10).all (fun d => isDig (UInt8.ofNat (48 + d)) && decide ((UInt8.ofNat (48 + d)).toNat - 48 = d)) = true := by kernel_rfl
  have := List.all_eq_true.1 hk d (List.mem_range.2 h)
  simpa using this

theorem dec_dig : ∀ u : Nat, ∀ c ∈ Lib.decDigits u, isDig c = true := by
  intro u
  induction u using Nat.strongRecOn with
  | _ u ih =>
    intro c hc
    by_cases h : u < 10
    · rw [decDigits_small h] at hc
      simp only [List.mem_singleton] at hc
      subst hc
      exact (digc h).1
    · rw [decDigits_big h] at hc
      rcases List.mem_append.1 hc with hc | hc
      · exact ih _ (by omega) c hc
      · simp only [List.mem_singleton] at hc
        subst hc
        exact (digc (Nat.mod_lt _ (by omega))).1

def valC (l : List UInt8) : List Nat := l.map fun c => c.toNat - 48
theorem dec_num : ∀ u : Nat, numD (valC (Lib.decDigits u)) = u := by
  intro u
  induction u using Nat.strongRecOn with
  | _ u ih =>
    by_cases h : u < 10
    · rw [decDigits_small h]
      simp only [valC, List.map_cons, List.map_nil, (digc h).2]
      simp [numD]
    · rw [decDigits_big h]
      have h1 : valC (Lib.decDigits (u / 10) ++ [UInt8.ofNat (48 + u % 10)]) = valC (Lib.decDigits (u / 10)) ++ [u % 10] := by
        simp only [valC, List.map_append, List.map_cons, List.map_nil, (digc (Nat.mod_lt u (show 0 < 10 by omega))).2]
      rw [h1, numD_append, ih _ (by omega)]
      simp [numD]
      omega

theorem spanD_app : ∀ (D R : List UInt8), (∀ c ∈ D, isDig c = true) → (∀ c r, R = c :: r → isDig c = false) → spanD (D ++ R) = (valC D, R)
  | [], [], _, _ => rfl
  | [], c :: r, _, h => by
    have := h c r rfl
    simp only [List.nil_append, spanD]
    rw [if_neg (fun h' => by rw [(isDig_iff c).2 h'] at this; cases this)]
    rfl
  | c :: D, R, hd, h => by
    have hc := (isDig_iff c).1 (hd c List.mem_cons_self)
    simp only [List.cons_append, spanD]
    rw [if_pos hc, spanD_app D R (fun x hx => hd x (List.mem_cons_of_mem _ hx)) h]
    rfl

theorem frac_num : ∀ (k f : Nat), k ≤ 17 → f < 65536 → 2 ^ (17 - k) ∣ f → 65536 * numD (valC (fracS k f)) = f * 10 ^ (fracS k f).length ∧ ∀ c ∈ fracS k f, isDig c = true
  | 0, f, _, hf, hd => by
    obtain ⟨m, hm⟩ := hd
    have : f = 0 := by
      rw [show (2 : Nat) ^ (17 - 0) = 131072 from rfl] at hm; omega
    subst this
    simp [fracS, valC, numD]
  | k + 1, f, hk, hf, hd => by
    have h5 : f * 10 / 65536 < 10 := by omega
    obtain ⟨c1, c2⟩ := digc h5
    have hdm := Nat.div_add_mod (f * 10) 65536
    have hr : f * 10 % 65536 < 65536 := Nat.mod_lt _ (by omega)
    simp only [fracS]
    by_cases h0 : f * 10 % 65536 = 0
    · rw [if_pos h0]
      refine ⟨?_, fun c hc => ?_⟩
      · simp only [valC, List.map_cons, List.map_nil, c2, numD_cons, List.length_cons, List.length_nil]
        simp [numD]
        omega
      · simp only [List.mem_singleton] at hc; subst hc; exact c1
    · rw [if_neg h0]
      have hk1 : 1 ≤ k := by
        rcases Nat.eq_zero_or_pos k with h | h
        · subst h
          exfalso
          obtain ⟨m, hm⟩ := hd
          rw [show (2 : Nat) ^ (17 - (0 + 1)) = 65536 from rfl] at hm
          have : f = 0 := by omega
          subst this
          simp at h0
        · exact h
      obtain ⟨e1, e2⟩ := frac_num k (f * 10 % 65536) (by omega) hr (frac_dvd hk1 (by omega) hd)
      refine ⟨?_, fun c hc => ?_⟩
      · have hv : valC (UInt8.ofNat (48 + f * 10 / 65536) :: fracS k (f * 10 % 65536)) = (f * 10 / 65536) :: valC (fracS k (f * 10 % 65536)) := by simp only [valC, List.map_cons, c2]
        rw [hv, numD_cons, List.length_cons, Nat.pow_succ]
        have hl : (valC (fracS k (f * 10 % 65536))).length = (fracS k (f * 10 % 65536)).length := by simp [valC]
        rw [hl]
        generalize f * 10 / 65536 = d at *
        generalize f * 10 % 65536 = r at *
        generalize numD (valC (fracS k r)) = A at *
        generalize 10 ^ (fracS k r).length = p at *
        have e3 : 65536 * (d * p + A) = (65536 * d + r) * p := by
          rw [Nat.mul_add, e1, Nat.add_mul, Nat.mul_assoc]
        rw [e3, hdm, Nat.mul_comm p 10, Nat.mul_assoc]
      · rcases List.mem_cons.1 hc with rfl | hc
        · exact c1
        · exact e2 c hc

theorem unsign_dig {s : List UInt8} (h : ∀ c r, s = c :: r → isDig c = true) : unsign s = (s, 1) := by
  unfold unsign
  split
  · rename_i r; have := h 45 r rfl; cases this
  · rename_i r; have := h 43 r rfl; cases this
  · rfl
theorem sgn_dig {s : List UInt8} (h : ∀ c r, s = c :: r → isDig c = true) : sgn s = (false, s) := by
  unfold sgn
  split
  · rename_i c r
    have := (dig_reg (h c r rfl)).2
    rw [if_neg this.1, if_neg this.2.1]
  · rfl
theorem dec_head (u : Nat) (R : List UInt8) : ∀ c r, Lib.decDigits u ++ R = c :: r → isDig c = true := by
  intro c r h
  have h1 : 1 ≤ (Lib.decDigits u).length := by
    by_cases h : u < 10
    · rw [decDigits_small h]; simp
    · rw [decDigits_big h]; simp
  cases hd : Lib.decDigits u with
  | nil => rw [hd] at h1; simp at h1
  | cons x l =>
    rw [hd] at h
    simp only [List.cons_append, List.cons.injEq] at h
    rw [← h.1]
    exact dec_dig u x (by rw [hd]; exact List.mem_cons_self)

theorem cnt_dec (u C : Nat) (h : u ≤ C) : cntFrom C 10 0 (Lib.decDigits u) = some u := by
  have := cnt_baseD (b := 10) (by omega) (by omega) (C := C) id (fun i hi => (bdig_facts hi).1) u h
  rw [List.map_id, ← dec_base] at this
  exact this

/-- An int's text is read back. -/
theorem itoa_back {n : Int} (h0 : -2147483648 ≤ n) (h1 : n ≤ 2147483647) : wordT (Lib.itoa n) = (1, n, [], 0) ∧ (Lib.itoa n).length ≤ 11 ∧ regAll (Lib.itoa n) = true ∧ Lib.itoa n ≠ [] := by
  have key : ∀ (u : Nat) (sg : Int) (s : List UInt8), u ≤ 2147483648 → (sg = 1 ∨ sg = -1) → -2147483648 ≤ sg * u → sg * u ≤ 2147483647 → unsign s = (Lib.decDigits u, sg) → s.length ≤ 11 → regAll s = true → s ≠ [] → wordT s = (1, sg * u, [], 0) := by
    intro u sg s hu hsg k0 k1 hun hl hr hs
    have hc : cntS 10 (Lib.decDigits u) = (u, true) := by
      unfold cntS
      rw [cnt_dec u _ (by omega)]
      have := (decDigits_len10 (u := u) (by omega)).1
      have hne : Lib.decDigits u ≠ [] := by intro h; rw [h] at this; simp at this
      simp [hne]
    have hw : wholeT s = (1, sg * u, 0) := by
      unfold wholeT
      rw [hun, hc]
      simp only [if_true]
      unfold ansT
      rw [if_neg (by omega)]
    have hn : numT s = (1, sg * u, 0) := by
      unfold numT
      rw [hw, if_pos (by simp)]
    unfold wordT
    rw [if_neg (by simp [hs, hr]), hn, if_pos (by simp)]
  by_cases hn : n < 0
  · obtain ⟨u, hu⟩ : ∃ u : Nat, n = -(u : Int) := ⟨n.natAbs, by omega⟩
    have e2 : Lib.itoa n = 45 :: Lib.decDigits u := by unfold Lib.itoa; rw [if_pos hn, hu]; simp
    have hl := decDigits_len10 (u := u) (by omega)
    have hr : regAll (45 :: Lib.decDigits u) = true := regAll_of fun c hc => by
      rcases List.mem_cons.1 hc with rfl | hc
      · rfl
      · exact (dig_reg (dec_dig u c hc)).1
    rw [e2]
    refine ⟨?_, by simp; omega, hr, by simp⟩
    rw [key u (-1) _ (by omega) (.inr rfl) (by omega) (by omega) rfl (by simp; omega) hr (by simp), hu]
    simp
  · obtain ⟨u, rfl⟩ := Int.eq_ofNat_of_zero_le (show 0 ≤ n by omega)
    have e2 : Lib.itoa (u : Int) = Lib.decDigits u := by unfold Lib.itoa; rw [if_neg hn]; simp
    have hl := decDigits_len10 (u := u) (by omega)
    have hr : regAll (Lib.decDigits u) = true := regAll_of fun c hc => (dig_reg (dec_dig u c hc)).1
    have hne : Lib.decDigits u ≠ [] := by intro h; rw [h] at hl; simp at hl
    rw [e2]
    refine ⟨?_, by omega, hr, hne⟩
    have hun : unsign (Lib.decDigits u) = (Lib.decDigits u, 1) := unsign_dig (by simpa using dec_head u [])
    rw [key u 1 _ (by omega) (.inl rfl) (by omega) (by omega) hun (by omega) hr hne]
    simp

theorem cntFrom_46 (C : Nat) : ∀ (s : List UInt8) (n : Nat), 46 ∈ s → cntFrom C 10 n s = none
  | c :: s, n, h => by
    simp only [cntFrom]
    split
    · rfl
    · rename_i hc
      rcases List.mem_cons.1 h with rfl | h
      · exact absurd (show (digV 46 : Int) ≥ 10 by have : digV 46 = 99 := rfl; omega) hc
      · exact cntFrom_46 C s _ h

/-- A real's text is read back. -/
theorem print_back {n : Int} (h0 : -2147483648 ≤ n) (h1 : n ≤ 2147483648) : wordT (printS n) = (2, n, [], 0) ∧ (printS n).length ≤ 29 ∧ regAll (printS n) = true := by
  obtain ⟨u, neg, hn, hu, hneg⟩ : ∃ (u : Nat) (neg : Bool), n = (if neg = true then -(u : Int) else u) ∧ u ≤ 2147483648 ∧ (neg = true → 0 < u) := by
    by_cases h : n < 0
    · exact ⟨n.natAbs, true, by simp; omega, by omega, fun _ => by omega⟩
    · exact ⟨n.natAbs, false, by simp; omega, by omega, fun h => by cases h⟩
  obtain ⟨F, hF⟩ : ∃ F, F = fracS 17 (u % 65536) := ⟨_, rfl⟩
  obtain ⟨D, hD⟩ : ∃ D, D = Lib.decDigits (u / 65536) := ⟨_, rfl⟩
  have hp : printS n = (if neg = true then [45] else []) ++ (D ++ (46 :: F)) := by
    rw [hn, hF, hD]
    cases hb : neg with
    | true => simp only [if_true]; rw [printS_neg (hneg hb)]; rfl
    | false => simp only [Bool.false_eq_true, if_false]; rw [printS_pos]; rfl
  have hDl := decDigits_len10 (u := u / 65536) (by omega)
  rw [← hD] at hDl
  have hFl := fracS_len 17 (u % 65536)
  rw [← hF] at hFl
  have hDd : ∀ c ∈ D, isDig c = true := by rw [hD]; exact dec_dig _
  have hr : u % 65536 < 65536 := Nat.mod_lt _ (by omega)
  obtain ⟨q1, q2⟩ := frac_num 17 (u % 65536) (by omega) hr (by simp)
  rw [← hF] at q1 q2
  have hDn : numD (valC D) = u / 65536 := by rw [hD]; exact dec_num _
  have hhead : ∀ c r, D ++ (46 :: F) = c :: r → isDig c = true := by rw [hD]; exact dec_head _ _
  have hdm := Nat.div_add_mod u 65536
  -- its characters
  have hch : ∀ c ∈ printS n, isReg c = true ∧ c ≠ 35 := by
    intro c hc
    rw [hp] at hc
    have hdg : isDig c = true → isReg c = true ∧ c ≠ 35 := fun h => ⟨(dig_reg h).1, (dig_reg h).2.2.2.1⟩
    rcases List.mem_append.1 hc with hc | hc
    · cases neg with
      | true => simp at hc; subst hc; exact ⟨rfl, by decide⟩
      | false => simp at hc
    · rcases List.mem_append.1 hc with hc | hc
      · exact hdg (hDd c hc)
      · rcases List.mem_cons.1 hc with rfl | hc
        · exact ⟨rfl, by decide⟩
        · exact hdg (q2 c hc)
  have hreg : regAll (printS n) = true := regAll_of fun c hc => (hch c hc).1
  have hlen : (printS n).length ≤ 29 := by
    rw [hp]
    simp only [List.length_append, List.length_cons]
    split <;> simp <;> omega
  refine ⟨?_, hlen, hreg⟩
  have hne : printS n ≠ [] := by rw [hp]; simp
  have hsgn : sgn (printS n) = (neg, D ++ (46 :: F)) := by
    rw [hp]
    cases neg with
    | true => rfl
    | false => simpa using sgn_dig hhead
  have hun : (unsign (printS n)).1 = D ++ (46 :: F) := by
    rw [hp]
    cases neg with
    | true => rfl
    | false => simp only [Bool.false_eq_true, if_false, List.nil_append]; rw [unsign_dig hhead]
  have hsp1 : spanD (D ++ (46 :: F)) = (valC D, 46 :: F) := spanD_app D _ hDd (fun c r h => by cases h; rfl)
  have hsp2 : spanD F = (valC F, []) := by
    have := spanD_app F [] q2 (fun c r h => by cases h)
    simpa using this
  have hL : decL (printS n) = valC D ++ valC F := by
    unfold decL
    rw [hsgn]
    simp only [hsp1, oneB, List.tail_cons, hsp2]
    simp
  have hR : decR (printS n) = [] := by
    unfold decR
    rw [hsgn]
    simp only [hsp1, oneB, List.tail_cons, hsp2]
    simp
  have hdec : decD (printS n) = some (neg, valC D ++ valC F, ((valC D).length : Int)) := by
    unfold decD
    rw [hL, hR, hsgn]
    simp only [hsp1]
    have : valC D ++ valC F ≠ [] := by
      intro h
      have : (valC D).length = 0 := by rw [(List.append_eq_nil_iff.1 h).1]; rfl
      simp [valC] at this
      rw [this] at hDl; simp at hDl
    rw [if_neg this]
    simp [oneB]
  have hld := (decD_facts hdec).2.1
  have hex : (((valC D).length : Int) - ((valC D ++ valC F).length : Int)) = -((valC F).length : Int) := by simp; omega
  have hFlen : (valC F).length = F.length := by simp [valC]
  have hval : 131072 * numD (valC D ++ valC F) = 10 ^ F.length * (2 * u) := by
    rw [numD_append, hDn, hFlen]
    generalize 10 ^ F.length = p at *
    generalize numD (valC F) = A at *
    generalize u / 65536 = a at *
    generalize u % 65536 = b at *
    have e1 : 131072 * (a * p + A) = 2 * (65536 * (a * p) + 65536 * A) := by omega
    rw [e1, q1]
    have e2 : 65536 * (a * p) + b * p = u * p := by rw [← hdm, Nat.add_mul, Nat.mul_assoc]
    rw [e2, Nat.mul_comm u p, ← Nat.mul_assoc, Nat.mul_comm 2 p, Nat.mul_assoc]
  have hpp : 0 < 10 ^ F.length := Nat.pow_pos (by omega)
  have hN : unitsN (valC D ++ valC F) (((valC D).length : Int) - ((valC D ++ valC F).length : Int)) = 2 * u ∧ unitsR (valC D ++ valC F) (((valC D).length : Int) - ((valC D ++ valC F).length : Int)) = false := by
    unfold unitsN unitsR
    rw [hex, hFlen, show (-(F.length : Int)).toNat = 0 by omega, show (-(-(F.length : Int))).toNat = F.length by omega, hval]
    refine ⟨?_, ?_⟩
    · rw [Nat.pow_zero, Nat.mul_one, Nat.mul_div_cancel_left _ hpp]
    · rw [Nat.pow_zero, Nat.mul_one, Nat.mul_mod_right]; rfl
  have hround : roundR neg (valC D ++ valC F) (((valC D).length : Int) - ((valC D ++ valC F).length : Int)) = n := by
    unfold roundR
    rw [acc_units hld, hN.1, hN.2, Nat.min_eq_left (by omega), hn]
    cases neg with
    | true => simp; omega
    | false => simp; omega
  have hparse : parseS (printS n) = (n, 0) := by
    unfold parseS
    rw [if_neg (by omega), hdec]
    simp only
    rw [val_law hld, hround, if_pos ⟨h0, h1⟩]
  have h46 : 46 ∈ printS n := by rw [hp]; simp
  have hw : wholeT (printS n) = (0, 0, 5) := by
    have hc : cntR 10 (unsign (printS n)).1 = -1 := by
      rw [hun]
      unfold cntR
      rw [cntFrom_46 _ _ _ (by simp)]
      split <;> rfl
    rw [whole_law, hc, if_neg (by omega)]
  have ht : ∀ i, tryR (printS n) i = none := by
    intro i
    unfold tryR
    rw [if_neg]
    rintro ⟨h, _⟩
    exact (hch 35 (List.mem_of_getElem? h)).2 rfl
  have hrx : radixT (printS n) = (0, 0, 5) := by rw [radix_law, ht 1, ht 2]
  have hdt : decT (printS n) = (2, n, 0) := by
    unfold decT
    have ha : anyOf [46, 101, 69] (printS n) = true := by
      unfold anyOf
      rw [List.any_eq_true]
      exact ⟨46, h46, by decide⟩
    rw [ha, patS_eq, hdec, hparse]
    simp
  have hnum : numT (printS n) = (2, n, 0) := by
    unfold numT
    rw [hw, if_neg (by simp), hrx, if_neg (by simp), hdt]
  unfold wordT
  rw [if_neg (by simp [hne, hreg]), hnum, if_pos (by simp)]

end Go.Ev

/- The plain law of LexBack: what a valid token's text is; texts are distinct. -/
namespace Go.Ev
open Go
set_option linter.unusedSimpArgs false
set_option linter.unusedSectionVars false
set_option linter.unusedVariables false

/-- A text that is a word of its own. -/
def Mark (x : List UInt8) : Prop := x = [91] ∨ x = [93] ∨ x = [60, 60] ∨ x = [62, 62]

theorem kind_cases {k n : Int} {x : List UInt8} (hr : rightT k n x = true) :
    ((k = 1 ∨ k = 2 ∨ k = 3) ∧ wordT (textS k n x) = (k, n, x, 0) ∧ regAll (textS k n x) = true ∧ (k = 1 ∨ k = 2 → x = []) ∧ (k = 3 → textS k n x = x) ∧ (textS k n x).length ≤ 100) ∨
    (regAll (textS k n x) = false ∧ n = 0 ∧ ((k = 4 ∧ regAll x = true ∧ textS k n x = 47 :: x ∧ x.length ≤ 100) ∨ (k = 5 ∧ regAll x = true ∧ textS k n x = 47 :: 47 :: x ∧ x.length ≤ 100) ∨ (k = 6 ∧ x.length ≤ 1000 ∧ textS k n x = quoteS x) ∨ (k = 7 ∧ x = [] ∧ textS k n x = [123]) ∨ (k = 8 ∧ x = [] ∧ textS k n x = [125]) ∨ (k = 3 ∧ textS k n x = x ∧ Mark x))) := by
  unfold rightT at hr
  by_cases h1 : k = 1
  · subst h1
    simp at hr
    obtain ⟨⟨a, b⟩, rfl⟩ := hr
    obtain ⟨w1, w2, w3, _⟩ := itoa_back a b
    left
    have ht : textS 1 n [] = Lib.itoa n := by simp [textS]
    rw [ht]
    exact ⟨.inl rfl, w1, w3, fun _ => rfl, fun h => by omega, by omega⟩
  rw [if_neg h1] at hr
  by_cases h2 : k = 2
  · subst h2
    simp at hr
    obtain ⟨⟨a, b⟩, rfl⟩ := hr
    obtain ⟨w1, w2, w3⟩ := print_back a b
    left
    have ht : textS 2 n [] = printS n := by simp [textS]
    rw [ht]
    exact ⟨.inr (.inl rfl), w1, w3, fun _ => rfl, fun h => by omega, by omega⟩
  rw [if_neg h2] at hr
  by_cases h3 : k = 3
  · subst h3
    rw [if_pos (.inl rfl)] at hr
    have ht : textS 3 n x = x := by simp [textS]
    rw [ht]
    by_cases hm : Mark x
    · right
      have hn : n = 0 := by
        cases hk : markT 3 n x with
        | true => simp [markT] at hk; exact hk.1
        | false => rw [hk] at hr; simp at hr; exact hr.1
      refine ⟨?_, hn, .inr (.inr (.inr (.inr (.inr ⟨rfl, rfl, hm⟩))))⟩
      rcases hm with rfl | rfl | rfl | rfl <;> rfl
    · left
      have hk : markT 3 n x = false := by
        cases hk : markT 3 n x with
        | false => rfl
        | true =>
          exfalso
          simp [markT] at hk
          exact hm (by rcases hk.2 with ((h | h) | h) | h <;> simp [Mark, h])
      rw [hk] at hr
      simp [namedT] at hr
      obtain ⟨rfl, ⟨hl, hreg⟩, hne, hnum⟩ := hr
      refine ⟨.inr (.inr rfl), ?_, hreg, fun h => by omega, fun _ => rfl, hl⟩
      unfold wordT
      rw [if_neg (by simp [hne, hreg]), if_neg (by simp [hnum]), if_neg (by omega)]
  by_cases h45 : k = 4 ∨ k = 5
  · rw [if_pos (by omega)] at hr
    have hk : markT k n x = false := by simp [markT, h3]
    rw [hk] at hr
    simp [namedT, h3] at hr
    obtain ⟨rfl, hl, hreg⟩ := hr
    right
    rcases h45 with rfl | rfl
    · have ht : textS 4 0 x = 47 :: x := by simp [textS]
      rw [ht]
      exact ⟨rfl, rfl, .inl ⟨rfl, hreg, rfl, hl⟩⟩
    · have ht : textS 5 0 x = 47 :: 47 :: x := by simp [textS]
      rw [ht]
      exact ⟨rfl, rfl, .inr (.inl ⟨rfl, hreg, rfl, hl⟩)⟩
  rw [if_neg (by omega)] at hr
  by_cases h6 : k = 6
  · subst h6
    simp at hr
    obtain ⟨rfl, hl⟩ := hr
    right
    have ht : textS 6 0 x = quoteS x := by simp [textS]
    rw [ht]
    exact ⟨rfl, rfl, .inr (.inr (.inl ⟨rfl, hl, rfl⟩))⟩
  rw [if_neg h6] at hr
  simp at hr
  obtain ⟨h78, rfl, rfl⟩ := hr
  right
  rcases h78 with rfl | rfl
  · exact ⟨rfl, rfl, .inr (.inr (.inr (.inl ⟨rfl, rfl, rfl⟩)))⟩
  · exact ⟨rfl, rfl, .inr (.inr (.inr (.inr (.inl ⟨rfl, rfl, rfl⟩))))⟩

theorem quoteS_head (x : List UInt8) : ∃ r, quoteS x = 40 :: r := ⟨_, rfl⟩

/-- Two valid tokens with the same text are equal. -/
theorem text_inj {k n k' n' : Int} {x x' : List UInt8} (hr : rightT k n x = true) (hr' : rightT k' n' x' = true) (h : textS k n x = textS k' n' x') : k = k' ∧ n = n' ∧ x = x' := by
  rcases kind_cases hr with ⟨_, w, rg, _⟩ | ⟨rg, hn, c⟩
  · rcases kind_cases hr' with ⟨_, w', rg', _⟩ | ⟨rg', _⟩
    · rw [h, w'] at w
      simp only [Prod.mk.injEq] at w
      exact ⟨w.1.symm, w.2.1.symm, w.2.2.1.symm⟩
    · rw [h, rg'] at rg; cases rg
  · rcases kind_cases hr' with ⟨_, w', rg', _⟩ | ⟨rg', hn', c'⟩
    · rw [h, rg'] at rg; cases rg
    · subst hn hn'
      obtain ⟨q, hq⟩ := quoteS_head x
      obtain ⟨q', hq'⟩ := quoteS_head x'
      have r47 : ∀ y : List UInt8, regAll (47 :: y) = false := fun y => rfl
      rcases c with ⟨rfl, a, e, _⟩ | ⟨rfl, a, e, _⟩ | ⟨rfl, a, e⟩ | ⟨rfl, a, e⟩ | ⟨rfl, a, e⟩ | ⟨rfl, e, a⟩ <;>
        rcases c' with ⟨rfl, a', e', _⟩ | ⟨rfl, a', e', _⟩ | ⟨rfl, a', e'⟩ | ⟨rfl, a', e'⟩ | ⟨rfl, a', e'⟩ | ⟨rfl, e', a'⟩ <;> rw [e, e'] at h
      all_goals first
        | (rw [hq] at h; simp at h; done)
        | (rw [hq'] at h; simp at h; done)
        | (simp at h; subst h; exact ⟨rfl, rfl, rfl⟩)
        | (exact ⟨rfl, rfl, quoteS_inj a a' h⟩)
        | (exact ⟨rfl, rfl, h⟩)
        | (exact ⟨rfl, rfl, by rw [a, a']⟩)
        | (simp at h; subst h; rw [r47] at a; cases a)
        | (simp at h; subst h; rw [r47] at a'; cases a')
        | (simp at h; done)
        | (rcases a with rfl | rfl | rfl | rfl <;> simp at h <;> done)
        | (rcases a' with rfl | rfl | rfl | rfl <;> simp at h <;> done)
        | (rw [hq'] at h; rcases a with rfl | rfl | rfl | rfl <;> simp at h <;> done)
        | (rw [hq] at h; rcases a' with rfl | rfl | rfl | rfl <;> simp at h <;> done)

end Go.Ev

/- LexBack: the law told. -/
namespace Go.Ev
open Go
set_option linter.unusedSimpArgs false
set_option linter.unusedSectionVars false
set_option linter.unusedVariables false

variable {T : Tab} {st : St}

theorem Ext.add {s : St} (x : Ext st s) {n : Nat} (h1 : st.nx ≤ n) (h2 : n < s.nx) (hno : hget s.h n = none) (o : AObj) : Ext st ⟨(n, o) :: s.h, s.nx⟩ := by
  refine ⟨x.nx, ⟨fun m p hm => ?_, ?_⟩, fun m hm => ?_⟩
  · simp only [hget] at hm
    split at hm
    · rename_i e; subst e; exact h2
    · exact x.wf.lt m p hm
  · simp only [List.map_cons, List.nodup_cons]
    refine ⟨fun hm => ?_, x.wf.nd⟩
    obtain ⟨p, hp⟩ := hget_of_mem hm
    rw [hno] at hp; cases hp
  · simp only [hget]
    rw [if_neg (by omega), x.keep m hm]

theorem Ext.put2 (hwf : st.Wf) {k : Nat} {s : St} (hk : 2 ≤ k) (x : Ext ⟨st.h, st.nx + k⟩ s) (o o2 : AObj) : Ext st ⟨(st.nx + 1, o2) :: (st.nx, o) :: s.h, s.nx⟩ := by
  have hnx := x.nx
  have hn : ∀ m, st.nx ≤ m → hget st.h m = none := fun m hm => by
    cases hg : hget st.h m with
    | none => rfl
    | some p => have := hwf.lt m p hg; omega
  refine (Ext.put hwf x (Nat.le_refl _) (by omega) o).add (n := st.nx + 1) (by omega) (by simp only at hnx ⊢; omega) ?_ o2
  simp only [hget]
  rw [if_neg (by omega), x.keep _ (by simp only; omega)]
  exact hn _ (by omega)

theorem eq_toks {k n k' n' : Int} {x x' : List UInt8} (hr : rightT k n x = true) (hr' : rightT k' n' x' = true) : (textS k n x == textS k' n' x') = (decide (k = k') && (decide (n = n') && (x == x'))) := by
  by_cases h : textS k n x = textS k' n' x'
  · obtain ⟨rfl, rfl, rfl⟩ := text_inj hr hr' h
    simp
  · have : ¬ (k = k' ∧ n = n' ∧ x = x') := by rintro ⟨rfl, rfl, rfl⟩; exact h rfl
    have h1 : (textS k n x == textS k' n' x') = false := by simpa using h
    rw [h1]
    symm
    simp only [Bool.and_eq_false_iff, decide_eq_false_iff_not, beq_eq_false_iff_ne]
    by_cases ha : k = k'
    · by_cases hb : n = n'
      · exact .inr (.inr fun hc => this ⟨ha, hb, hc⟩)
      · exact .inr (.inl hb)
    · exact .inl ha

theorem back_tells (H : B.H_chaselaw03_LexBack T) (hwf : st.Wf) (hp : Pow st) {K K' : Nat} {N N' : Int} {t t' more : List UInt8} (hK : K < 256) (hN0 : -2147483648 ≤ N) (hN1 : N ≤ 2147483647) (hK' : K' < 256) (hN0' : -2147483648 ≤ N') (hN1' : N' ≤ 2147483647)
    (ht : t.length ≤ 140737488351232) (ht' : t'.length ≤ 140737488351232) (hm : more.length ≤ 140737488351232) :
    Tells T st (.fn 125 [] []) [.agg [.int .u8 (K : Int), .int .i32 N, .str t], .agg [.int .u8 (K' : Int), .int .i32 N', .str t'], .str more] (.bool true) := by
  refine tells_of H.e H.f rfl ?_
  have xa := Ext.new hwf (.cells 205 true [.int .u8 (K : Int), .int .i32 N, .str t])
  have xb := xa.trans (Ext.new xa.wf (.cells 205 true [.int .u8 (K' : Int), .int .i32 N', .str t']))
  simp only [Nat.add_assoc, Nat.reduceAdd] at xb
  have ga : hget ((st.nx + 1, AObj.cells 205 true [.int .u8 (K' : Int), .int .i32 N', .str t']) :: (st.nx, .cells 205 true [.int .u8 (K : Int), .int .i32 N, .str t]) :: st.h) st.nx = some (.cells 205 true [.int .u8 (K : Int), .int .i32 N, .str t]) := by simp [hget_cons]
  have gb : hget ((st.nx + 1, AObj.cells 205 true [.int .u8 (K' : Int), .int .i32 N', .str t']) :: (st.nx, .cells 205 true [.int .u8 (K : Int), .int .i32 N, .str t]) :: st.h) (st.nx + 1) = some (.cells 205 true [.int .u8 (K' : Int), .int .i32 N', .str t']) := by simp [hget_cons]
  simp [B.chaselaw03_LexBack, go_sem, NO.run, AV.nb, Nat.add_assoc]
  refine (works_tells H.chaselaw03_works xb.wf).use fun s1 x1 => ?_
  have y1 := xb.trans x1
  have ga1 := x1.get xb.wf ga
  have gb1 := x1.get xb.wf gb
  have ra : rdCells s1.h st.nx 0 3 = some [.int .u8 (K : Int), .int .i32 N, .str t] := rd_all ga1 rfl
  have rb : rdCells s1.h (st.nx + 1) 0 3 = some [.int .u8 (K' : Int), .int .i32 N', .str t'] := rd_all gb1 rfl
  have xs := Ext.aside y1.wf 9
  have hD := draft_right K hN0 hN1 t
  have hD' := draft_right K' hN0' hN1' t'
  have hl := draft_len K N t
  have hl' := draft_len K' N' t'
  simp [go_sem, RO.run, ra, rb]
  refine (token_tells H.chaseref03_Draft_Token xs.wf hK hN0 hN1 (by omega)).use fun s2 x2 => ?_
  have ra2 : rdCells s2.h st.nx 0 3 = some [.int .u8 (K : Int), .int .i32 N, .str t] := rd_all (x2.get xs.wf ga1) rfl
  have rb2 : rdCells s2.h (st.nx + 1) 0 3 = some [.int .u8 (K' : Int), .int .i32 N', .str t'] := rd_all (x2.get xs.wf gb1) rfl
  simp [go_sem, RO.run, ra2, rb2, reI]
  refine ⟨rfl, ?_⟩
  refine (token_tells H.chaseref03_Draft_Token x2.wf hK' hN0' hN1' (by omega)).use fun s3 x3 => ?_
  have x23 := x2.trans x3
  have z0 := fun o o2 => y1.trans (Ext.put2 y1.wf (by omega) x23 o o2)
  clear ra2 rb2 ra rb xs
  generalize draftT K N t = D at *
  generalize draftT K' N' t' = D' at *
  obtain ⟨k, n, x⟩ := D
  obtain ⟨k', n', x'⟩ := D'
  simp only at hD hD' hl hl'
  have z := z0 (.cells 134 true [.int .i64 k, .int .i64 n, .str x]) (.cells 134 true [.int .i64 k', .int .i64 n', .str x'])
  have g7 : hget ((s1.nx + 1, AObj.cells 134 true [.int .i64 k', .int .i64 n', .str x']) :: (s1.nx, .cells 134 true [.int .i64 k, .int .i64 n, .str x]) :: s3.h) s1.nx = some (.cells 134 true [.int .i64 k, .int .i64 n, .str x]) := by simp [hget_cons]
  have g8 : hget ((s1.nx + 1, AObj.cells 134 true [.int .i64 k', .int .i64 n', .str x']) :: (s1.nx, .cells 134 true [.int .i64 k, .int .i64 n, .str x]) :: s3.h) (s1.nx + 1) = some (.cells 134 true [.int .i64 k', .int .i64 n', .str x']) := by simp [hget_cons]
  clear z0 x23
  simp [go_sem, NO.run, WO.run, RO.run, wrCells, rdCells, hget_cons, hset_cons, splice]
  generalize hS : (⟨(s1.nx + 1, .cells 134 true [.int .i64 k', .int .i64 n', .str x']) :: (s1.nx, .cells 134 true [.int .i64 k, .int .i64 n, .str x]) :: s3.h, s3.nx⟩ : St) = sA at z ⊢
  rw [show (s1.nx + 1, AObj.cells 134 true [.int .i64 k', .int .i64 n', .str x']) :: (s1.nx, .cells 134 true [.int .i64 k, .int .i64 n, .str x]) :: s3.h = sA.h by rw [← hS]] at g7 g8
  clear hS
  refine (lexText_tells H.lex_Text z.wf (hp.ext z hwf) (by omega)).use fun s4 x4 => ?_
  have y4 := z.trans x4
  have g74 := x4.get z.wf g7
  have g84 := x4.get z.wf g8
  simp [go_sem, RO.run, tok_rd g84, hD]
  refine (lexText_tells H.lex_Text y4.wf (hp.ext y4 hwf) (by omega)).use fun s5 x5 => ?_
  have y5 := y4.trans x5
  have g75 := x5.get y4.wf g74
  have g85 := x5.get y4.wf g84
  have heq := eq_toks hD hD'
  have hc := kind_cases hD
  simp [go_sem, RO.run, tok_rd g75, tok_rd g85, hD', tok_eq, seq8_eq, heq]
  have rk := rd_at (k := 0) g75 rfl
  have lt7 := y5.wf.lt _ _ g75
  have bad : regAll (textS k n x) = false → wordT (textS k n x) = (0, 0, [], 5) := fun h => by unfold wordT; rw [if_pos (.inr h)]
  rcases hc with ⟨hk, hw, hrg, hx0, hx3, hlen⟩ | ⟨hrg, rfl, hc⟩
  · generalize textS k n x = S at *
    have word := fun (s : St) (hs : s.Wf) => word_tells (st := s) H.lex_Word hs (s := S) (by omega)
    rw [hw] at word
    rcases hk with rfl | rfl | rfl
    · simp [go_sem, rk, RO.run]
      refine (word s5 y5.wf).use fun s6 x6 => ?_
      have y6 := y5.trans x6
      have g76 := x6.get y5.wf g75
      have hne : ¬ s6.nx = s1.nx := by have := y6.wf.lt _ _ g76; omega
      have z6 := y6.trans (Ext.new y6.wf (.cells 134 true [.int .i64 1, .int .i64 n, .str x]))
      simp [go_sem, toW, tokA, tokC, NO.run, WO.run, RO.run, wr_tok, rd_tok, rdCells, hget_cons, hne, g76, tok_eq, z6]
    · simp [go_sem, rk, RO.run]
      refine (word s5 y5.wf).use fun s6 x6 => ?_
      have y6 := y5.trans x6
      have g76 := x6.get y5.wf g75
      have hne : ¬ s6.nx = s1.nx := by have := y6.wf.lt _ _ g76; omega
      have z6 := y6.trans (Ext.new y6.wf (.cells 134 true [.int .i64 2, .int .i64 n, .str x]))
      simp [go_sem, toW, tokA, tokC, NO.run, WO.run, RO.run, wr_tok, rd_tok, rdCells, hget_cons, hne, g76, tok_eq, z6]
    · have m0 : (S == [91]) = false := by
        have : S ≠ [91] := by rintro rfl; cases hrg
        simpa using this
      have m1 : (S == [93]) = false := by
        have : S ≠ [93] := by rintro rfl; cases hrg
        simpa using this
      have m2 : (S == [60, 60]) = false := by
        have : S ≠ [60, 60] := by rintro rfl; cases hrg
        simpa using this
      have m3 : (S == [62, 62]) = false := by
        have : S ≠ [62, 62] := by rintro rfl; cases hrg
        simpa using this
      simp [go_sem, rk, RO.run]
      refine (word s5 y5.wf).use fun s6 x6 => ?_
      have y6 := y5.trans x6
      have g76 := x6.get y5.wf g75
      have hne : ¬ s6.nx = s1.nx := by have := y6.wf.lt _ _ g76; omega
      have z6 := y6.trans (Ext.new y6.wf (.cells 134 true [.int .i64 3, .int .i64 n, .str x]))
      simp [go_sem, toW, tokA, tokC, NO.run, WO.run, RO.run, wr_tok, rd_tok, rdCells, hget_cons, hne, g76, tok_eq, seq8_eq, m0, m1, m2, m3, z6]
  · rcases hc with ⟨rfl, a, e, _⟩ | ⟨rfl, a, e, _⟩ | ⟨rfl, a, e⟩ | ⟨rfl, a, e⟩ | ⟨rfl, a, e⟩ | ⟨rfl, e, a⟩
    · simp [go_sem, rk, y5]
    · simp [go_sem, rk, y5]
    · have hlen : (if (20 : Int) < (more.length : Int) then 20 else (more.length : Int)) = ((min more.length 20 : Nat) : Int) := by split <;> omega
      have hsub : asubS more none (some (.int .i64 ((min more.length 20 : Nat) : Int))) = some (.str (more.take 20)) := by
        rw [asubS_to (by omega) (by omega)]; simp [Nat.min_comm]
      have htk : (more.take 20).length ≤ 20 := by rw [List.length_take]; omega
      have hql : (quoteS x).length ≤ 4 * x.length + 2 := by
        have hl4 : ∀ l : List UInt8, (l.flatMap quoteC).length ≤ 4 * l.length := by
          intro l
          induction l with
          | nil => simp
          | cons c l ih =>
            have := quoteC_len c
            simp only [List.flatMap_cons, List.length_append, List.length_cons]
            omega
        have := hl4 x
        simp only [quoteS, List.length_cons, List.length_append, List.length_nil]
        omega
      have hub := unquote_back (x := x) (more := more.take 20) (by omega)
      have un := fun (s : St) (hs : s.Wf) => unquote_tells (st := s) H.lex_Unquote hs (s := quoteS x ++ more.take 20) (by rw [List.length_append]; omega)
      rw [hub] at un
      rw [e]
      generalize more.take 20 = M at *
      generalize quoteS x = Z at *
      simp [go_sem, rk, RO.run, hlen, hsub]
      rw [if_pos (by omega)]
      simp [go_sem]
      refine (un s5 y5.wf).use fun s6 x6 => ?_
      have y6 := y5.trans x6
      have g76 := rd_at (k := 2) (x6.get y5.wf g75) rfl
      simp [go_sem, toU, RO.run, g76, seq8_self, y6]
    · simp [go_sem, rk, y5]
    · simp [go_sem, rk, y5]
    · have hw := bad hrg
      rw [e] at hw ⊢
      have word := fun (s : St) (hs : s.Wf) => word_tells (st := s) H.lex_Word hs (s := x) (by omega)
      rw [hw] at word
      simp [go_sem, rk, RO.run]
      refine (word s5 y5.wf).use fun s6 x6 => ?_
      have y6 := y5.trans x6
      have z6 := y6.trans (Ext.new y6.wf (.cells 134 true [.int .i64 0, .int .i64 0, .str []]))
      rcases a with rfl | rfl | rfl | rfl <;> simp [go_sem, toW, tokA, tokC, NO.run, WO.run, RO.run, wr_tok, rd_tok, seq8, z6]

end Go.Ev
