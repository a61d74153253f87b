/- Reading a code gives the rows back: plain laws. -/
import Derived.Test.YtglndmkmfhafhaaEvFaxG
namespace Go.Ev
open Go
set_option linter.unusedSimpArgs false
set_option linter.unusedVariables false

/-! Bits and octets. -/
theorem bitsMS_snoc (n : Nat) (b : Bool) : ∀ k, bitsMS (2 * n + b.toNat) (k + 1) = bitsMS n k ++ [b]
  | 0 => by
    simp only [bitsMS, List.nil_append]
    congr 1
    rw [Nat.testBit_zero]
    cases b <;> simp <;> omega
  | k + 1 => by
    rw [bitsMS, bitsMS_snoc n b k, bitsMS, List.cons_append]
    congr 1
    rw [Nat.testBit_succ]
    congr 1
    cases b <;> simp <;> omega
theorem bitsMS_horner : ∀ (m : Nat) (l : List Bool), l.length = m → bitsMS (horner l) l.length = l
  | 0, l, h => by
    have : l = [] := List.eq_nil_of_length_eq_zero h
    subst this; rfl
  | m + 1, l, h => by
    have hne : l ≠ [] := by intro e; subst e; cases h
    have e := List.dropLast_concat_getLast hne
    have h1 : l.dropLast.length = m := by rw [List.length_dropLast]; omega
    rw [← e, horner_snoc, List.length_append, List.length_singleton, bitsMS_snoc, bitsMS_horner m _ h1]
theorem toNat_ofNat_lt {n : Nat} (h : n < 256) : (UInt8.ofNat n).toNat = n := by
  rw [UInt8.toNat_ofNat']
  omega
theorem strBits_append (a b : List UInt8) : strBits (a ++ b) = strBits a ++ strBits b := by simp [strBits]
theorem padded_eight (L : List Bool) : ∀ m, (List.range m).flatMap (fun k => padded L (8 * k) 8) = padded L 0 (8 * m)
  | 0 => rfl
  | m + 1 => by
    rw [List.range_succ, List.flatMap_append, padded_eight L m]
    simp only [List.flatMap_cons, List.flatMap_nil, List.append_nil]
    apply List.ext_getElem?
    intro i
    simp only [padded, Nat.zero_add]
    by_cases h : i < 8 * m
    · rw [List.getElem?_append_left (by simpa using h)]
      simp [h, show i < 8 * (m + 1) by omega]
    · rw [List.getElem?_append_right (by simp; omega)]
      simp only [List.length_map, List.length_range, List.getElem?_map, List.getElem?_range]
      by_cases h2 : i < 8 * (m + 1)
      · rw [List.getElem?_range (by omega), List.getElem?_range h2]
        simp only [Option.map_some]
        rw [show 8 * m + (i - 8 * m) = i by omega]
      · rw [List.getElem?_eq_none (by simp; omega), List.getElem?_eq_none (by simp; omega)]
        rfl
theorem padded_all {L : List Bool} {m : Nat} (h : L.length ≤ m) : padded L 0 m = L ++ List.replicate (m - L.length) false := by
  apply List.ext_getElem?
  intro i
  simp only [padded, Nat.zero_add]
  by_cases h1 : i < L.length
  · rw [List.getElem?_append_left h1, List.getElem?_map, List.getElem?_range (by omega), List.getElem?_eq_getElem h1]
    simp [h1]
  · rw [List.getElem?_append_right (by omega), List.getElem?_map, List.getElem?_replicate]
    by_cases h2 : i < m
    · rw [List.getElem?_range h2, if_pos (by omega)]
      simp only [Option.map_some]
      rw [List.getD_eq_getElem?_getD, List.getElem?_eq_none (by omega)]
      rfl
    · rw [List.getElem?_eq_none (by simp; omega), if_neg (by omega)]
      rfl
theorem strBits_pack (L : List Bool) : strBits ((packN L).map UInt8.ofNat) = L ++ List.replicate (8 * ((L.length + 7) / 8) - L.length) false := by
  have h1 : strBits ((packN L).map UInt8.ofNat) = (List.range ((L.length + 7) / 8)).flatMap (fun k => padded L (8 * k) 8) := by
    simp only [strBits, packN, List.map_map, List.flatMap_map]
    congr 1
    funext k
    simp only [Function.comp]
    have hl : (padded L (8 * k) 8).length = 8 := padded_length _ _ _
    have ho : octet (chunk L k) < 256 := octet_lt (by rw [chunk_length]; omega)
    rw [toNat_ofNat_lt ho, ← padded_octet]
    have := bitsMS_horner 8 _ hl
    rw [hl] at this
    exact this
  rw [h1, padded_eight, padded_all (by omega)]

/-! What is left to read. -/
/-- From a position on, these bits. -/
structure Rem (bits : List Bool) (i : Nat) (R : List Bool) : Prop where
  le : i ≤ bits.length
  eq : bits.drop i = R
theorem Rem.len {bits R : List Bool} {i : Nat} (h : Rem bits i R) : i + R.length = bits.length := by
  have := congrArg List.length h.eq
  rw [List.length_drop] at this
  have := h.le
  omega
theorem Rem.skip {bits A R : List Bool} {i : Nat} (h : Rem bits i (A ++ R)) : Rem bits (i + A.length) R := by
  have := h.len
  rw [List.length_append] at this
  refine ⟨by omega, ?_⟩
  rw [← List.drop_drop, h.eq, List.drop_left]
theorem Rem.cons {bits R : List Bool} {i : Nat} {b f : Bool} (h : Rem bits i (b :: R)) : rb bits (i, f) = (b, (i + 1, f)) ∧ Rem bits (i + 1) R := by
  have h1 := h.len
  have h2 : bits[i]? = some b := by
    have := congrArg (·[0]?) h.eq
    simpa using this
  rw [List.length_cons] at h1
  refine ⟨?_, Rem.skip (A := [b]) h⟩
  simp only [rb]
  rw [if_pos (by omega), List.getD_eq_getElem?_getD, h2]
  rfl
theorem zF_rem {bits : List Bool} : ∀ (k f c i : Nat) (R : List Bool), Rem bits i (List.replicate k false ++ true :: R) → k < f → zF bits f c (i, false) = (c + k, (i + k + 1, false)) ∧ Rem bits (i + k + 1) R
  | 0, f + 1, c, i, R, h, _ => by
    obtain ⟨h1, h2⟩ := Rem.cons (f := false) h
    simp only [zF, h1]
    exact ⟨by simp, h2⟩
  | k + 1, f + 1, c, i, R, h, hf => by
    rw [List.replicate_succ, List.cons_append] at h
    obtain ⟨h1, h2⟩ := Rem.cons (f := false) h
    obtain ⟨h3, h4⟩ := zF_rem k f (c + 1) (i + 1) R h2 (by omega)
    simp only [zF, h1]
    rw [if_pos (by simp), h3]
    refine ⟨?_, ?_⟩
    · rw [show c + 1 + k = c + (k + 1) by omega, show i + 1 + k + 1 = i + (k + 1) + 1 by omega]
    · rw [show i + (k + 1) + 1 = i + 1 + k + 1 by omega]; exact h4
theorem numF_rem {bits : List Bool} (m : Nat) : ∀ (k n i : Nat) (R : List Bool), Rem bits i (bitsMS m k ++ R) → numF bits k n (i, false) = (n * 2 ^ k + m % 2 ^ k, (i + k, false)) ∧ Rem bits (i + k) R
  | 0, n, i, R, h => by
    simp only [numF]
    exact ⟨by simp [Nat.mod_one], h⟩
  | k + 1, n, i, R, h => by
    rw [bitsMS, List.cons_append] at h
    obtain ⟨h1, h2⟩ := Rem.cons (f := false) h
    obtain ⟨h3, h4⟩ := numF_rem m k (2 * n + (m.testBit k).toNat) (i + 1) R h2
    simp only [numF, h1]
    rw [h3, Nat.mod_pow_succ, ← Nat.toNat_testBit, Nat.pow_succ]
    refine ⟨?_, by rw [show i + (k + 1) = i + 1 + k by omega]; exact h4⟩
    rw [show i + 1 + k = i + (k + 1) by omega, Nat.add_mul]
    congr 1
    have e1 : 2 * n * 2 ^ k = n * (2 ^ k * 2) := by rw [Nat.mul_comm 2 n, Nat.mul_assoc, Nat.mul_comm 2]
    have e2 : (m.testBit k).toNat * 2 ^ k = 2 ^ k * (m.testBit k).toNat := Nat.mul_comm _ _
    omega
theorem log2_bounds {x : Nat} (h : 0 < x) : 2 ^ Nat.log2 x ≤ x ∧ x < 2 ^ (Nat.log2 x + 1) :=
  ⟨Nat.log2_self_le (by omega), Nat.lt_log2_self⟩
theorem bitsMS_run {x : Nat} (h : 0 < x) : bitsMS x (2 * Nat.log2 x + 1) = List.replicate (Nat.log2 x) false ++ true :: bitsMS x (Nat.log2 x) := by
  obtain ⟨h1, h2⟩ := log2_bounds h
  rw [show 2 * Nat.log2 x + 1 = (Nat.log2 x + 1) + Nat.log2 x by omega, bitsMS_high h2]
  congr 1
  rw [bitsMS]
  congr 1
  rw [Nat.testBit_eq_decide_div_mod_eq]
  have h3 : x / 2 ^ Nat.log2 x = 1 := Nat.div_eq_of_lt_le (by omega) (by rw [Nat.pow_succ] at h2; omega)
  rw [h3]
  rfl
theorem runF_rem {bits R : List Bool} {n i : Nat} (hn : n < 200) (h : Rem bits i (bitsMS (n + 1) (2 * Nat.log2 (n + 1) + 1) ++ R)) :
    runF bits (i, false) = (n, (i + (2 * Nat.log2 (n + 1) + 1), false)) ∧ Rem bits (i + (2 * Nat.log2 (n + 1) + 1)) R := by
  obtain ⟨b1, b2⟩ := log2_bounds (show 0 < n + 1 by omega)
  have hk : Nat.log2 (n + 1) < 8 := (Nat.log2_lt (by omega)).2 (by omega)
  rw [bitsMS_run (by omega), List.append_assoc, List.cons_append] at h
  generalize hkk : Nat.log2 (n + 1) = k at *
  have hl := h.len
  rw [List.length_append, List.length_replicate, List.length_cons, List.length_append, bitsMS_length] at hl
  obtain ⟨h1, h2⟩ := zF_rem k (bits.length + 2) 0 i _ h (by omega)
  obtain ⟨h3, h4⟩ := numF_rem (n + 1) k 1 (i + k + 1) R h2
  have h5 : (n + 1) % 2 ^ k = n + 1 - 2 ^ k := by
    rw [Nat.pow_succ] at b2
    rw [Nat.mod_eq_sub_mod b1, Nat.mod_eq_of_lt (by omega)]
  simp only [runF, h1, Nat.zero_add]
  rw [if_neg (by omega), h3, h5]
  refine ⟨?_, by rw [show i + (2 * k + 1) = i + k + 1 + k by omega]; exact h4⟩
  rw [show i + k + 1 + k = i + (2 * k + 1) by omega]
  congr 1
  omega

end Go.Ev

/- Reading a code gives the rows back: a step, a row, all rows. -/
namespace Go.Ev
open Go
set_option linter.unusedSimpArgs false
set_option linter.unusedVariables false

theorem firstN_false {p : Int → Bool} : ∀ (n : Nat) (i j : Int), i ≤ j → j < firstN p i n → p j = false
  | 0, i, j, h1, h2 => by simp only [firstN] at h2; omega
  | n + 1, i, j, h1, h2 => by
    simp only [firstN] at h2
    split at h2
    · omega
    · rename_i h
      by_cases e : j = i
      · subst e; simpa using h
      · exact firstN_false n (i + 1) j (by omega) h2
theorem firstN_true {p : Int → Bool} : ∀ (n : Nat) (i : Int), firstN p i n < i + n → p (firstN p i n) = true
  | 0, i, h => by simp only [firstN] at h; omega
  | n + 1, i, h => by
    simp only [firstN] at h ⊢
    split
    · assumption
    · rename_i h1
      rw [if_neg h1] at h
      exact firstN_true n (i + 1) (by omega)
theorem firstZ_false {p : Int → Bool} {i w j : Int} (h1 : i ≤ j) (h2 : j < firstZ p i w) : p j = false :=
  firstN_false _ _ j (by omega) h2
theorem firstZ_true {p : Int → Bool} {i w : Int} (h : firstZ p i w < w) : p (firstZ p i w) = true := by
  have hle : min i w ≤ firstZ p i w := firstZ_ge'
  exact firstN_true _ _ (by unfold firstZ at h; omega)

theorem fillN_part {row : List Bool} {x : Bool} : ∀ (k m : Nat), m + k ≤ 128 → (∀ j, m ≤ j → j < m + k → row.getD j false = x) → fillN x k (rowPart row m) m = rowPart row (m + k)
  | 0, m, _, _ => rfl
  | k + 1, m, h, hx => by
    rw [fillN, rowPart_succ (by omega) (hx m (by omega) (by omega)), fillN_part k (m + 1) (by omega) (fun j h1 h2 => hx j (by omega) (by omega))]
    rw [show m + 1 + k = m + (k + 1) by omega]
theorem fillL_part {row : List Bool} {x : Bool} {i j : Int} (h0 : 0 ≤ i) (h1 : i ≤ j) (h2 : j ≤ 128) (hx : ∀ k : Int, i ≤ k → k < j → bit row k = x) : fillL (rowPart row i.toNat) x i j = rowPart row j.toNat := by
  unfold fillL
  rw [fillN_part _ _ (by omega) (fun k h3 h4 => by have := hx k (by omega) (by omega); simpa [bit] using this)]
  rw [show i.toNat + (j - i).toNat = j.toNat by omega]

/-- The pixel at the position has the color. -/
def Lies (row : List Bool) (w a : Int) (c : Bool) : Prop := 0 ≤ a → a < w → bit row a = c

variable {row before bits R : List Bool} {w a : Int} {c : Bool} {i : Nat}

theorem row_to_p (ha : -1 ≤ a) (haw : a < w) (hl : Lies row w a c) {k : Int} (h1 : max a 0 ≤ k) (h2 : k < encP row w a c) : bit row k = c := by
  by_cases h : max (a + 1) 0 ≤ k
  · have := firstZ_false (p := fun i => bit row i != c) (w := w) h h2
    simpa using this
  · have : k = a := by omega
    subst this
    exact hl (by omega) haw
theorem row_to_q (hp : 0 ≤ encP row w a c) {k : Int} (h1 : encP row w a c ≤ k) (h2 : k < encQ row w a c) (hq : encQ row w a c ≤ w) : bit row k = !c := by
  by_cases h : encP row w a c + 1 ≤ k
  · have := firstZ_false (p := fun i => bit row i == c) (w := w) h h2
    simp only [beq_eq_false_iff_ne] at this
    revert this; cases bit row k <;> cases c <;> simp
  · have : k = encP row w a c := by omega
    subst this
    have := firstZ_true (p := fun i => bit row i != c) (i := max (a + 1) 0) (w := w) (show encP row w a c < w by omega)
    have h3 : bit row (encP row w a c) ≠ c := by simpa [encP] using this
    revert h3; cases bit row (encP row w a c) <;> cases c <;> simp

theorem enc_more (row before : List Bool) {w a : Int} (c : Bool) (ha : -1 ≤ a) (haw : a < w) (hw : 1 ≤ w) :
    max (a + 1) 0 ≤ encP row w a c ∧ encP row w a c ≤ w ∧ min (encP row w a c + 1) w ≤ encQ row w a c ∧ encQ row w a c ≤ w ∧ max (a + 1) 0 ≤ encB before w a c ∧ encB before w a c ≤ w ∧ min (encB before w a c + 1) w ≤ encD before w a c ∧ encD before w a c ≤ w :=
  ⟨firstZ_ge (by omega), firstZ_le', firstZ_ge', firstZ_le', firstZ_ge (by omega), firstZ_le', firstZ_ge', firstZ_le'⟩

/-- One step of the code is read back. -/
theorem step_back (ha : -1 ≤ a) (haw : a < w) (hw : 1 ≤ w) (hw' : w ≤ 128) (hl : Lies row w a c)
    (h : Rem bits i (pairBits (encStep row before w a c).1 ++ R)) :
    ∃ a' c' j, (encStep row before w a c).2 = (a', c') ∧ stepF bits before w (rowPart row a.toNat) a c (i, false) = .go (rowPart row a'.toNat) a' c' (j, false) ∧ Rem bits j R ∧ a < a' ∧ a' ≤ w ∧ Lies row w a' c' := by
  obtain ⟨p1, p2, q1, q2, b1, b2, d1, d2⟩ := enc_more row before c ha haw hw
  have hmax : (max a 0).toNat = a.toNat := by omega
  unfold encStep at h ⊢
  by_cases hd : encD before w a c < encP row w a c
  · rw [if_pos hd] at h ⊢
    obtain ⟨z1, z2⟩ := zF_rem 3 8 0 i R h (by omega)
    have hdb : max (a + 1) 0 ≤ encD before w a c := by omega
    refine ⟨_, _, i + 4, rfl, ?_, z2, by show a < encD before w a c; omega, d2, fun _ _ => row_to_p ha haw hl (by omega) hd⟩
    simp only [stepF, z1, Bool.false_eq_true, if_false]
    rw [if_neg (by omega)]
    simp only [modeF, passF, Nat.zero_add]
    rw [if_neg (by omega)]
    simp only [Bool.false_eq_true, if_false]
    rw [← hmax, fillL_part (by omega) (by omega) (by omega) (fun k h1 h2 => row_to_p ha haw hl h1 (by omega))]
  rw [if_neg hd] at h ⊢
  by_cases hv : -3 ≤ encP row w a c - encB before w a c ∧ encP row w a c - encB before w a c ≤ 3
  · rw [if_pos hv] at h ⊢
    have fin : ∀ sh : Int, sh = encP row w a c - encB before w a c → vertF before w (rowPart row a.toNat) a c sh = some (rowPart row (encP row w a c).toNat, encP row w a c, !c) := by
      intro sh e
      unfold vertF
      rw [show encB before w a c + sh = encP row w a c by omega, if_neg (by omega), ← hmax, fillL_part (by omega) (by omega) (by omega) (fun k h1 h2 => row_to_p ha haw hl h1 h2)]
    have lies : Lies row w (encP row w a c) (!c) := by
      intro h1 h2
      have := firstZ_true (p := fun i => bit row i != c) (i := max (a + 1) 0) (w := w) h2
      have h3 : bit row (encP row w a c) ≠ c := by simpa [encP] using this
      revert h3; cases bit row (encP row w a c) <;> cases c <;> simp
    have hp : a < encP row w a c := by omega
    obtain ⟨v, hv'⟩ : ∃ v, v = encP row w a c - encB before w a c := ⟨_, rfl⟩
    rw [← hv'] at h hv
    have c7 : v = -3 ∨ v = -2 ∨ v = -1 ∨ v = 0 ∨ v = 1 ∨ v = 2 ∨ v = 3 := by omega
    rcases c7 with e | e | e | e | e | e | e <;> subst e
    · obtain ⟨z1, z2⟩ := zF_rem 5 8 0 i (false :: R) h (by omega)
      obtain ⟨r1, r2⟩ := Rem.cons (f := false) z2
      refine ⟨_, _, _, rfl, ?_, r2, hp, p2, lies⟩
      simp [stepF, z1, modeF, r1, fin _ hv']
    · obtain ⟨z1, z2⟩ := zF_rem 4 8 0 i (false :: R) h (by omega)
      obtain ⟨r1, r2⟩ := Rem.cons (f := false) z2
      refine ⟨_, _, _, rfl, ?_, r2, hp, p2, lies⟩
      simp [stepF, z1, modeF, r1, fin _ hv']
    · obtain ⟨z1, z2⟩ := zF_rem 1 8 0 i (false :: R) h (by omega)
      obtain ⟨r1, r2⟩ := Rem.cons (f := false) z2
      refine ⟨_, _, _, rfl, ?_, r2, hp, p2, lies⟩
      simp [stepF, z1, modeF, r1, fin _ hv']
    · obtain ⟨z1, z2⟩ := zF_rem 0 8 0 i R h (by omega)
      refine ⟨_, _, _, rfl, ?_, z2, hp, p2, lies⟩
      simp [stepF, z1, modeF, fin _ hv']
    · obtain ⟨z1, z2⟩ := zF_rem 1 8 0 i (true :: R) h (by omega)
      obtain ⟨r1, r2⟩ := Rem.cons (f := false) z2
      refine ⟨_, _, _, rfl, ?_, r2, hp, p2, lies⟩
      simp [stepF, z1, modeF, r1, fin _ hv']
    · obtain ⟨z1, z2⟩ := zF_rem 4 8 0 i (true :: R) h (by omega)
      obtain ⟨r1, r2⟩ := Rem.cons (f := false) z2
      refine ⟨_, _, _, rfl, ?_, r2, hp, p2, lies⟩
      simp [stepF, z1, modeF, r1, fin _ hv']
    · obtain ⟨z1, z2⟩ := zF_rem 5 8 0 i (true :: R) h (by omega)
      obtain ⟨r1, r2⟩ := Rem.cons (f := false) z2
      refine ⟨_, _, _, rfl, ?_, r2, hp, p2, lies⟩
      simp [stepF, z1, modeF, r1, fin _ hv']
  · rw [if_neg hv] at h ⊢
    obtain ⟨m, hm⟩ : ∃ m : Nat, m = (encP row w a c - max a 0).toNat := ⟨_, rfl⟩
    obtain ⟨k, hk⟩ : ∃ k : Nat, k = (encQ row w a c - encP row w a c).toNat := ⟨_, rfl⟩
    rw [← hm, ← hk] at h
    have hb : pairBits [(1, 3), runP m, runP k] = List.replicate 2 false ++ true :: (bitsMS (m + 1) (2 * Nat.log2 (m + 1) + 1) ++ (bitsMS (k + 1) (2 * Nat.log2 (k + 1) + 1))) := by
      simp [pairBits, runP, bitsMS, List.replicate]
      decide
    rw [hb, List.append_assoc, List.cons_append, List.append_assoc] at h
    obtain ⟨z1, z2⟩ := zF_rem 2 8 0 i _ h (by omega)
    obtain ⟨r1, r2⟩ := runF_rem (by omega) z2
    obtain ⟨s1, s2⟩ := runF_rem (by omega) r2
    have e1 : max a 0 + (m : Int) = encP row w a c := by omega
    have e2 : encP row w a c + (k : Int) = encQ row w a c := by omega
    refine ⟨_, _, _, rfl, ?_, s2, by show a < encQ row w a c; omega, q2, ?_⟩
    · simp only [stepF, z1, Bool.false_eq_true, if_false]
      rw [if_neg (by omega)]
      simp only [modeF, horF, Nat.zero_add, r1, s1, e1, e2]
      rw [if_neg (by omega)]
      simp only [Bool.false_eq_true, if_false]
      rw [← hmax, fillL_part (by omega) (by omega) (by omega) (fun k h1 h2 => row_to_p ha haw hl h1 h2), fillL_part (by omega) (by omega) (by omega) (fun k h1 h2 => row_to_q (by omega) h1 h2 q2)]
    · intro h1 h2
      have := firstZ_true (p := fun i => bit row i == c) (i := encP row w a c + 1) (w := w) h2
      simpa [encQ] using this

theorem row_back (hw : 1 ≤ w) (hw' : w ≤ 128) : ∀ (n k : Nat) (a : Int) (c : Bool) (i : Nat), -1 ≤ a → a ≤ w → (w - a).toNat < k → (w - a).toNat ≤ n → Lies row w a c → Rem bits i (encRow row before w n a c ++ R) →
    ∃ c' j, decRowF bits before w k (rowPart row a.toNat) a c (i, false) = .go (rowPart row w.toNat) w c' (j, false) ∧ Rem bits j R := by
  intro n
  induction n with
  | zero =>
    intro k a c i h1 h2 h3 h4 h5 h6
    have : a = w := by omega
    subst this
    obtain ⟨k, rfl⟩ : ∃ m, k = m + 1 := ⟨k - 1, by omega⟩
    refine ⟨c, i, ?_, by simpa [encRow] using h6⟩
    simp [decRowF]
  | succ n ih =>
    intro k a c i h1 h2 h3 h4 h5 h6
    obtain ⟨k, rfl⟩ : ∃ m, k = m + 1 := ⟨k - 1, by omega⟩
    simp only [encRow] at h6
    by_cases h : a < w
    · rw [if_pos h, List.append_assoc] at h6
      obtain ⟨a', c', j, e1, e2, e3, e4, e5, e6⟩ := step_back h1 h hw hw' h5 h6
      rw [show (encStep row before w a c).2.1 = a' by rw [e1], show (encStep row before w a c).2.2 = c' by rw [e1]] at e3
      obtain ⟨c2, j2, f1, f2⟩ := ih k a' c' j (by omega) e5 (by omega) (by omega) e6 e3
      refine ⟨c2, j2, ?_, f2⟩
      simp only [decRowF, if_pos h, e2, f1]
    · rw [if_neg h] at h6
      have : a = w := by omega
      subst this
      refine ⟨c, i, ?_, by simpa using h6⟩
      simp [decRowF]

end Go.Ev

/- Reading the code of rows gives the rows back, and the length of the code: plain laws. -/
namespace Go.Ev
open Go
set_option linter.unusedSimpArgs false
set_option linter.unusedVariables false

theorem rowPart_white (row : List Bool) : rowPart row 0 = white := rowPart_zero row

theorem rowOut_part {w : Nat} (hw : w ≤ 128) (row : List Bool) : rowOut w (rowPart row w) = rowOut w row := by
  simp only [rowOut]
  apply List.map_congr_left
  intro i hi
  by_cases h : i < w
  · rw [List.getD_eq_getElem?_getD, rowPart_get (by omega)]
    simp [h]
  · simp [h]

theorem sameTo_part {w : Nat} (hw : w ≤ 128) {r : List Bool} (h : r.length = w) : SameTo w r (rowPart r w) := by
  intro j h0 h1
  have := sameTo_row r hw j h0 h1
  rw [this, List.take_of_length_le (by omega)]

/-- All rows of a code, and the end, are read back. -/
theorem all_back {bits R : List Bool} {w : Nat} (hw : 1 ≤ w) (hw' : w ≤ 128) : ∀ (rs : List (List Bool)) (b before : List Bool) (k i : Nat), (∀ r ∈ rs, r.length = w) → SameTo w b before → rs.length < k →
    Rem bits i (codeRows w rs b ++ (bitsMS 1 8 ++ R)) → ∃ j, decAll bits w k before (i, false) = some (rs.map (rowPart · w), (j, false)) ∧ Rem bits j R
  | [], b, before, k + 1, i, _, _, _, h => by
    obtain ⟨z1, z2⟩ := zF_rem 7 8 0 i R h (by omega)
    refine ⟨_, ?_, z2⟩
    have hw0 : (-1 : Int) < w := by omega
    simp [decAll, decRowF, hw0, stepF, z1]
  | r :: rs, b, before, k + 1, i, hr, hb, hk, h => by
    rw [codeRows, List.append_assoc, encRow_congr (r := r) (r' := r) (fun _ _ _ => rfl) hb] at h
    obtain ⟨c', j, e1, e2⟩ := row_back (w := (w : Int)) (by omega) (by omega) 129 200 (-1) false i (by omega) (by omega) (by omega) (by omega) (fun h => by omega) h
    obtain ⟨j2, f1, f2⟩ := all_back hw hw' rs r (rowPart r w) k j (fun q hq => hr q (List.mem_cons_of_mem _ hq)) (sameTo_part hw' (hr r List.mem_cons_self)) (by simp at hk; omega) e2
    refine ⟨j2, ?_, f2⟩
    have e0 : rowPart r (-1 : Int).toNat = white := rowPart_zero r
    rw [e0] at e1
    simp only [decAll, e1, Int.toNat_natCast, f1, Option.map_some, List.map_cons]

theorem padF_rem {bits : List Bool} : ∀ (k a z : Nat) (R : List Bool), Rem bits a (List.replicate z false ++ R) → (a + z) % 8 = 0 → z < 8 → z < k → padF bits k a = some (a + z)
  | k + 1, a, 0, R, h, ha, _, _ => by
    simp only [padF]
    rw [if_pos (by omega)]
    rfl
  | k + 1, a, z + 1, R, h, ha, hz, hk => by
    rw [List.replicate_succ, List.cons_append] at h
    obtain ⟨h1, h2⟩ := Rem.cons (f := false) h
    have h3 := h.len
    rw [List.length_cons] at h3
    have h4 : bits.getD a false = false := by
      simp only [rb] at h1
      rw [if_pos (by omega)] at h1
      exact congrArg Prod.fst h1
    simp only [padF]
    rw [if_neg (by omega), h4]
    simp only [Bool.false_eq_true, if_false]
    rw [padF_rem k (a + 1) z R h2 (by omega) (by omega) (by omega), show a + 1 + z = a + (z + 1) by omega]

theorem chunk_append {A B : List Bool} {q k : Nat} (hA : A.length = 8 * q) : (k < q → chunk (A ++ B) k = chunk A k) ∧ chunk (A ++ B) (q + k) = chunk B k := by
  refine ⟨fun h => ?_, ?_⟩
  · simp only [chunk]
    rw [List.drop_append_of_le_length (by omega), List.take_append_of_le_length (by rw [List.length_drop]; omega)]
  · simp only [chunk]
    rw [show 8 * (q + k) = A.length + 8 * k by omega, List.drop_append]
    simp
    rw [List.drop_of_length_le (by omega)]
    simp
theorem packN_append {A B : List Bool} {q : Nat} (hA : A.length = 8 * q) : packN (A ++ B) = packN A ++ packN B := by
  apply List.ext_getElem?
  intro k
  have hl : (A ++ B).length = 8 * q + B.length := by rw [List.length_append, hA]
  have hA' : (packN A).length = q := by rw [packN_length, hA]; omega
  by_cases h : k < q
  · rw [List.getElem?_append_left (by omega), packN_get (by omega), packN_get (by omega), (chunk_append hA).1 h]
  · rw [List.getElem?_append_right (by omega), hA']
    obtain ⟨j, rfl⟩ : ∃ j, k = q + j := ⟨k - q, by omega⟩
    rw [show q + j - q = j by omega]
    by_cases h2 : j < (B.length + 7) / 8
    · rw [packN_get (by omega), packN_get h2, (chunk_append hA).2]
    · rw [List.getElem?_eq_none (by rw [packN_length]; omega), List.getElem?_eq_none (by rw [packN_length]; omega)]

theorem dataOf_cons (w : Nat) (r : List Bool) (rs : List (List Bool)) : dataOf w (r :: rs) = (packN (rowOut w r)).map UInt8.ofNat ++ dataOf w rs := by
  simp only [dataOf, List.flatMap_cons]
  rw [packN_append (q := (w + 7) / 8) (rowOut_length w r), List.map_append]
theorem dataOf_len (w : Nat) (rs : List (List Bool)) : (dataOf w rs).length = rs.length * ((w + 7) / 8) := by
  have := flat_length w rs
  rw [dataOf, List.length_map, packN_length, this, ← Nat.mul_assoc, Nat.mul_comm rs.length 8, Nat.mul_assoc]
  omega

theorem rowsK_data {w : Nat} : ∀ rs : List (List Bool), (∀ r ∈ rs, r.length = w) → rowsK w ((w + 7) / 8) rs.length (dataOf w rs) = some rs
  | [], _ => rfl
  | r :: rs, h => by
    have hr := h r List.mem_cons_self
    have hl : ((packN (rowOut w r)).map UInt8.ofNat).length = (w + 7) / 8 := by rw [List.length_map, packN_length, rowOut_length]; omega
    have hb : strBits ((packN (rowOut w r)).map UInt8.ofNat) = r ++ List.replicate (8 * ((w + 7) / 8) - w) false := by
      rw [strBits_pack, rowOut_length, show 8 * ((8 * ((w + 7) / 8) + 7) / 8) - 8 * ((w + 7) / 8) = 0 by omega, rowOut_row hr]
      simp
    rw [dataOf_cons, List.length_cons, rowsK, List.take_left' hl, List.drop_left' hl, hb, rowsK_data rs (fun q hq => h q (List.mem_cons_of_mem _ hq))]
    have hc : cleanFrom (r ++ List.replicate (8 * ((w + 7) / 8) - w) false) w = true := by
      simp [cleanFrom, List.drop_left' hr]
    rw [if_pos hc, List.take_left' hr]
    rfl

/-- The code of rows. -/
def codeOf (w : Nat) (rs : List (List Bool)) : List Bool := codeRows w rs (List.replicate w false)

/-- What Encode answers for rows. -/
theorem encSpec_data {w : Nat} (hw : 1 ≤ w) (hw' : w ≤ 128) {rs : List (List Bool)} (hrs : ∀ r ∈ rs, r.length = w) (hn : rs.length ≤ 4096) (hl : (codeOf w rs).length ≤ 524280) :
    encSpec (dataOf w rs) w = ((packN (codeOf w rs ++ bitsMS 1 8)).map UInt8.ofNat, 0) := by
  have h1 := dataOf_len w rs
  have hm : rs.length * ((w + 7) / 8) ≤ 4096 * 16 := Nat.mul_le_mul hn (by omega)
  unfold encSpec
  simp only [Int.toNat_natCast]
  rw [if_neg (by omega), if_neg (by omega), h1, Nat.mul_mod_left, if_neg (by simp), Nat.mul_div_cancel _ (by omega), encK_rows hw' _ _ _ _ (sameTo_white w), rowsK_data rs hrs]
  simp only [Option.map_some]
  rw [if_neg (by rw [packN_length, List.length_append, bitsMS_length]; show ¬ 65536 < ((codeOf w rs).length + 8 + 7) / 8; omega)]
  rfl

theorem codeRows_pos {w : Nat} (hw : 1 ≤ w) : ∀ (rs : List (List Bool)) (b : List Bool), rs.length ≤ (codeRows w rs b).length
  | [], b => by simp
  | r :: rs, b => by
    have h1 := encRow_pos r b (w := (w : Int)) (a := -1) (c := false) (by omega) (k := 129) (by omega)
    have h2 := codeRows_pos hw rs r
    rw [codeRows, List.length_append, List.length_cons]
    omega

/-- What is left behind the rows of a code and its end. -/
theorem code_rem (L : List Bool) (more : List UInt8) : Rem (strBits ((packN (L ++ bitsMS 1 8)).map UInt8.ofNat ++ more)) 0 (L ++ (bitsMS 1 8 ++ (List.replicate ((8 - L.length % 8) % 8) false ++ strBits more))) := by
  refine ⟨by omega, ?_⟩
  rw [List.drop_zero, strBits_append, strBits_pack, List.length_append, bitsMS_length, show 8 * ((L.length + 8 + 7) / 8) - (L.length + 8) = (8 - L.length % 8) % 8 by omega]
  simp only [List.append_assoc]

theorem decSpec_code {w : Nat} (hw : 1 ≤ w) (hw' : w ≤ 128) {rs : List (List Bool)} (hrs : ∀ r ∈ rs, r.length = w) {more : List UInt8} (hl : (codeOf w rs).length + 8 * more.length ≤ 524280) :
    decSpec ((packN (codeOf w rs ++ bitsMS 1 8)).map UInt8.ofNat ++ more) w = if 65536 < rs.length * ((w + 7) / 8) then ([], 0, 3) else (dataOf w rs, ((((codeOf w rs).length + 15) / 8 : Nat) : Int), 0) := by
  have hx : ((packN (codeOf w rs ++ bitsMS 1 8)).map UInt8.ofNat ++ more).length = ((codeOf w rs).length + 15) / 8 + more.length := by
    rw [List.length_append, List.length_map, packN_length, List.length_append, bitsMS_length]
  have hrem := code_rem (codeOf w rs) more
  have hpos := codeRows_pos hw rs (List.replicate w false)
  obtain ⟨j, h1, h2⟩ := all_back hw hw' rs (List.replicate w false) white (8 * (((codeOf w rs).length + 15) / 8 + more.length) + 1) 0 hrs (fun j h0 h1 => (sameTo_white w j h0 h1).symm) (by unfold codeOf; omega) hrem
  have hj : j = (codeOf w rs).length + 8 := by
    have e1 := h2.len
    have e2 := hrem.len
    simp only [List.length_append, bitsMS_length] at e1 e2
    omega
  have h3 := padF_rem 9 j _ _ h2 (by omega) (by omega) (by omega)
  unfold decSpec
  rw [hx, if_neg (by omega), if_neg (by omega)]
  simp only [Int.toNat_natCast, h1, h3, List.length_map]
  rw [show (rs.map (rowPart · w)).flatMap (rowOut w) = rs.flatMap (rowOut w) by simp [List.flatMap_map, rowOut_part hw']]
  rw [show (j + (8 - (codeOf w rs).length % 8) % 8) / 8 = ((codeOf w rs).length + 15) / 8 by omega]
  rfl

end Go.Ev

/- What is read of a part of the bits is read of all of them: plain laws. -/
namespace Go.Ev
open Go
set_option linter.unusedSimpArgs false
set_option linter.unusedVariables false

variable {bits before R : List Bool}

theorem rb_bad {p : Nat × Bool} (h : p.2 = true) : (rb bits p).2.2 = true := by
  unfold rb
  split
  · exact h
  · rfl
theorem zF_bad : ∀ (f k : Nat) (p : Nat × Bool), p.2 = true → (zF bits f k p).2.2 = true
  | 0, k, p, h => h
  | f + 1, k, p, h => by
    have h1 := rb_bad (bits := bits) h
    simp only [zF]
    rw [if_neg (by rw [h1]; simp)]
    exact h1
theorem numF_bad : ∀ (k n : Nat) (p : Nat × Bool), p.2 = true → (numF bits k n p).2.2 = true
  | 0, n, p, h => h
  | k + 1, n, p, h => by
    simp only [numF]
    exact numF_bad k _ _ (rb_bad h)
theorem runF_bad {p : Nat × Bool} (h : p.2 = true) : (runF bits p).2.2 = true := by
  have h1 := zF_bad (bits := bits) (bits.length + 2) 0 p h
  unfold runF
  split
  · exact h1
  · exact numF_bad _ _ _ h1

theorem rb_ext {p : Nat × Bool} (h : (rb bits p).2.2 = false) : rb (bits ++ R) p = rb bits p := by
  have h1 := (rb_ok h).2
  unfold rb
  rw [if_pos h1, if_pos (by rw [List.length_append]; omega), List.getD_eq_getElem?_getD, List.getD_eq_getElem?_getD, List.getElem?_append_left h1]
theorem zF_ext : ∀ (f k : Nat) (p : Nat × Bool), (zF bits f k p).2.2 = false → zF (bits ++ R) f k p = zF bits f k p
  | 0, k, p, h => rfl
  | f + 1, k, p, h => by
    simp only [zF] at h ⊢
    by_cases hc : (rb bits p).1 = false ∧ (rb bits p).2.2 = false
    · rw [if_pos hc] at h ⊢
      rw [rb_ext hc.2, if_pos hc]
      exact zF_ext f (k + 1) _ h
    · rw [if_neg hc] at h ⊢
      rw [rb_ext h, if_neg hc]
theorem zF_more : ∀ (f f' k : Nat) (p : Nat × Bool), f ≤ f' → bits.length < p.1 + f → p.1 ≤ bits.length → (zF bits f k p).2.2 = false → zF (bits ++ R) f' k p = zF bits f k p
  | 0, f', k, p, h1, h2, h3, h => by omega
  | f + 1, f' + 1, k, p, h1, h2, h3, h => by
    simp only [zF] at h ⊢
    by_cases hc : (rb bits p).1 = false ∧ (rb bits p).2.2 = false
    · have h4 := rb_ok hc.2
      rw [if_pos hc] at h ⊢
      rw [rb_ext hc.2, if_pos hc]
      exact zF_more f f' (k + 1) _ (by omega) (by omega) (by omega) h
    · rw [if_neg hc] at h ⊢
      rw [rb_ext h, if_neg hc]
theorem numF_ext : ∀ (k n : Nat) (p : Nat × Bool), (numF bits k n p).2.2 = false → numF (bits ++ R) k n p = numF bits k n p
  | 0, n, p, h => rfl
  | k + 1, n, p, h => by
    simp only [numF] at h ⊢
    have h1 : (rb bits p).2.2 = false := by
      cases h2 : (rb bits p).2.2 with
      | false => rfl
      | true => rw [numF_bad _ _ _ h2] at h; cases h
    rw [rb_ext h1]
    exact numF_ext k _ _ h
theorem runF_ext {p : Nat × Bool} (hp : p.1 ≤ bits.length) (h : (runF bits p).2.2 = false) : runF (bits ++ R) p = runF bits p := by
  have hz : (zF bits (bits.length + 2) 0 p).2.2 = false := by
    cases h2 : (zF bits (bits.length + 2) 0 p).2.2 with
    | false => rfl
    | true =>
      unfold runF at h
      split at h
      · rw [h2] at h; cases h
      · rw [numF_bad _ _ _ h2] at h; cases h
  have e : zF (bits ++ R) ((bits ++ R).length + 2) 0 p = zF bits (bits.length + 2) 0 p := zF_more _ _ _ _ (by rw [List.length_append]; omega) (by omega) hp hz
  unfold runF at h ⊢
  rw [e]
  split
  · rfl
  · rename_i h8
    rw [if_neg h8] at h
    rw [numF_ext _ _ _ h]

theorem modeF_ext {w a : Int} {row : List Bool} {x : Bool} {n : Nat} {p : Nat × Bool} (hp : p.1 ≤ bits.length) (h : (modeF bits before w row a x n p).2.2 = false) : modeF (bits ++ R) before w row a x n p = modeF bits before w row a x n p := by
  have h1 := runF_le hp
  match n, h with
  | 0, h => rfl
  | 1, h =>
    simp only [modeF] at h ⊢
    rw [rb_ext h]
  | 2, h =>
    simp only [modeF, horF] at h ⊢
    have h2 : (runF bits p).2.2 = false := by
      cases h2 : (runF bits p).2.2 with
      | false => rfl
      | true => rw [runF_bad h2] at h; cases h
    rw [runF_ext hp h2, runF_ext h1.1 h]
  | 3, h => rfl
  | 4, h =>
    simp only [modeF] at h ⊢
    rw [rb_ext h]
  | 5, h =>
    simp only [modeF] at h ⊢
    rw [rb_ext h]
  | n + 6, h => rfl

theorem stepF_ext {w a : Int} {row : List Bool} {x : Bool} {p : Nat × Bool} (hp : p.1 ≤ bits.length) (h : stepF bits before w row a x p ≠ .fail) : stepF (bits ++ R) before w row a x p = stepF bits before w row a x p := by
  have hz : (zF bits 8 0 p).2.2 = false := by
    cases h2 : (zF bits 8 0 p).2.2 with
    | false => rfl
    | true => unfold stepF at h; rw [if_pos h2] at h; exact absurd rfl h
  have hzl := zF_le (bits := bits) 8 0 p hp
  unfold stepF at h ⊢
  rw [zF_ext (R := R) 8 0 p hz]
  have hzn : ¬ (zF bits 8 0 p).2.2 = true := by rw [hz]; simp
  rw [if_neg hzn] at h
  rw [if_neg hzn, if_neg hzn]
  split
  · rfl
  · rename_i h7
    rw [if_neg h7] at h
    have hm : (modeF bits before w row a x (zF bits 8 0 p).1 (zF bits 8 0 p).2).1 = none ∨ (modeF bits before w row a x (zF bits 8 0 p).1 (zF bits 8 0 p).2).2.2 = false := by
      generalize modeF bits before w row a x (zF bits 8 0 p).1 (zF bits 8 0 p).2 = m at h
      obtain ⟨m1, m2⟩ := m
      cases m1 with
      | none => exact .inl rfl
      | some v =>
        right
        obtain ⟨v1, v2, v3⟩ := v
        simp only at h
        cases e : m2.2 with
        | false => rfl
        | true => rw [e, if_pos rfl] at h; exact absurd rfl h
    rcases hm with hm | hm
    · exfalso
      revert hm h
      generalize modeF bits before w row a x (zF bits 8 0 p).1 (zF bits 8 0 p).2 = m
      obtain ⟨m1, m2⟩ := m
      intro h hm
      subst hm
      exact h rfl
    · rw [modeF_ext hzl.1 hm]

theorem decRowF_ext {w : Int} (hw : 1 ≤ w) : ∀ (k : Nat) (row : List Bool) (a : Int) (x : Bool) (p : Nat × Bool), -1 ≤ a → p.1 ≤ bits.length → decRowF bits before w k row a x p ≠ .fail →
    decRowF (bits ++ R) before w k row a x p = decRowF bits before w k row a x p
  | 0, row, a, x, p, _, _, h => absurd rfl h
  | k + 1, row, a, x, p, ha, hp, h => by
    simp only [decRowF] at h ⊢
    by_cases hlt : a < w
    · rw [if_pos hlt] at h ⊢
      rw [if_pos hlt]
      cases hs : stepF bits before w row a x p with
      | fail => rw [hs] at h; exact absurd rfl h
      | fin q => rw [stepF_ext hp (by rw [hs]; simp), hs]
      | go row1 a1 x1 p1 =>
        rw [hs] at h
        obtain ⟨h1, h2, h3, h4, h5, h6⟩ := stepF_go ha hlt hw hp hs
        rw [stepF_ext hp (by rw [hs]; simp), hs]
        exact decRowF_ext hw k row1 a1 x1 p1 (by omega) h2 h
    · rw [if_neg hlt, if_neg hlt]

theorem decAll_ext {w : Nat} (hw : 1 ≤ w) : ∀ (k k' : Nat) (before : List Bool) (p : Nat × Bool) (t : List (List Bool) × (Nat × Bool)), k ≤ k' → p.1 ≤ bits.length → p.2 = false → decAll bits w k before p = some t → decAll (bits ++ R) w k' before p = some t
  | 0, k', before, p, t, _, _, _, h => by cases h
  | k + 1, k' + 1, before, p, t, hk, hp, hpf, h => by
    simp only [decAll] at h ⊢
    have hok := decRowF_ok (bits := bits) (before := before) (w := (w : Int)) (by omega) 200 white (-1) false p (by omega) (by omega) hp hpf
    cases hs : decRowF bits before w 200 white (-1) false p with
    | fail => rw [hs] at h; cases h
    | fin q =>
      rw [decRowF_ext (by omega) _ _ _ _ _ (by omega) hp (by rw [hs]; simp), hs]
      rw [hs] at h
      exact h
    | go row1 a1 x1 p1 =>
      rw [decRowF_ext (by omega) _ _ _ _ _ (by omega) hp (by rw [hs]; simp), hs]
      rw [hs] at h
      simp only at h ⊢
      obtain ⟨_, _, h2, h3, _⟩ := hok.2 _ _ _ _ hs
      cases hd : decAll bits w k row1 p1 with
      | none => rw [hd] at h; cases h
      | some t1 =>
        rw [decAll_ext hw k k' row1 p1 t1 (by omega) h2 h3 hd]
        rw [hd] at h
        exact h

/-- No proper beginning of a code is decoded. -/
theorem decSpec_prefix {w : Nat} (hw : 1 ≤ w) (hw' : w ≤ 128) {rs : List (List Bool)} (hrs : ∀ r ∈ rs, r.length = w) (hl : (codeOf w rs).length ≤ 524280) {i : Nat} (hi : i < ((packN (codeOf w rs ++ bitsMS 1 8)).map UInt8.ofNat).length) :
    (decSpec (((packN (codeOf w rs ++ bitsMS 1 8)).map UInt8.ofNat).take i) w).2.2 = 5 := by
  obtain ⟨x, hx⟩ : ∃ x, x = (packN (codeOf w rs ++ bitsMS 1 8)).map UInt8.ofNat := ⟨_, rfl⟩
  have hxl : x.length = ((codeOf w rs).length + 15) / 8 := by
    rw [hx, List.length_map, packN_length, List.length_append, bitsMS_length]
  rw [← hx] at hi ⊢
  have hpos := codeRows_pos hw rs (List.replicate w false)
  have hrem := code_rem (codeOf w rs) []
  rw [← hx, List.append_nil] at hrem
  obtain ⟨j, h1, h2⟩ := all_back hw hw' rs (List.replicate w false) white (8 * x.length + 1) 0 hrs (fun j h0 h1 => (sameTo_white w j h0 h1).symm) (by rw [hxl]; unfold codeOf; omega) hrem
  have hj : j = (codeOf w rs).length + 8 := by
    have e1 := h2.len
    have e2 := hrem.len
    simp only [List.length_append, bitsMS_length] at e1 e2
    omega
  have hil : (x.take i).length = i := by rw [List.length_take]; omega
  unfold decSpec
  rw [if_neg (by omega), if_neg (by omega)]
  simp only [Int.toNat_natCast]
  cases hd : decAll (strBits (x.take i)) w (8 * (x.take i).length + 1) white (0, false) with
  | none => rfl
  | some t =>
    exfalso
    obtain ⟨rs', q⟩ := t
    have h3 := decAll_ok hw _ _ _ _ _ (by omega) rfl hd
    have h4 := decAll_ext (R := strBits (x.drop i)) hw _ (8 * x.length + 1) _ _ _ (by omega) (by omega) rfl hd
    rw [← strBits_append, List.take_append_drop, h1] at h4
    simp only [Option.some.injEq, Prod.mk.injEq] at h4
    have h5 : q.1 = j := by rw [← h4.2]
    have h6 := h3.1
    rw [strBits_length, hil] at h6
    omega

end Go.Ev
