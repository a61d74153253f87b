/- real.Parse told. -/
import Derived.Test.YtodphnhkhnebcaaDoorP06
import Derived.Lib.RuneBytes
import Derived.Lib.IndexLaws
import Derived.Laws.RangeAny
namespace Go.Ev
open Go
set_option linter.unusedSimpArgs false
set_option linter.unusedSectionVars false
set_option linter.unusedVariables false

variable {T : Tab} {st : St}

theorem sgn_len (s : List UInt8) : (sgn s).2.length ≤ s.length := by
  rw [(sgn_one s).1]; simp

theorem decD_facts {s : List UInt8} {neg : Bool} {l : List Nat} {pt : Int} (h : decD s = some (neg, l, pt)) : l.length ≤ s.length ∧ (∀ d ∈ l, d < 10) ∧ -1000 ≤ pt ∧ pt ≤ s.length + 1000 := by
  have hs := sgn_len s
  have h1 := spanD_len (sgn s).2
  have d1 := spanD_lt (sgn s).2
  have hL : (decL s).length ≤ s.length ∧ ∀ d ∈ decL s, d < 10 := by
    have h2 := spanD_len (spanD (sgn s).2).2.tail
    have d2 := spanD_lt (spanD (sgn s).2).2.tail
    simp only [List.length_tail] at h2
    unfold decL
    split
    · refine ⟨by simp; omega, fun d hd => ?_⟩
      rcases List.mem_append.1 hd with hd | hd
      · exact d1 d hd
      · exact d2 d hd
    · exact ⟨by omega, d1⟩
  unfold decD at h
  split at h
  · cases h
  · split at h
    · split at h
      · cases h
      · rename_i hbad
        split at h
        · have hnb : numD (spanD (sgn (decR s).tail).2).1 < 1000 := by
            refine Nat.lt_of_lt_of_le (numD_lt (fun d hd => spanD_lt _ d hd)) ?_
            exact Nat.le_trans (Nat.pow_le_pow_right (by omega) (show _ ≤ 3 by omega)) (by omega)
          simp only [Option.some.injEq, Prod.mk.injEq] at h
          obtain ⟨_, rfl, rfl⟩ := h
          refine ⟨hL.1, hL.2, ?_, ?_⟩ <;> split <;> omega
        · cases h
    · split at h
      · simp only [Option.some.injEq, Prod.mk.injEq] at h
        obtain ⟨_, rfl, rfl⟩ := h
        exact ⟨hL.1, hL.2, by omega, by omega⟩
      · cases h

/-- A real's N, rounded, or none where it is too great. -/
def valS (neg : Bool) (l : List Nat) (pt : Int) : Option Int :=
  if 2147483648 < frontF 0 (intD l pt) then none else
  let b := bitsF 16 (frontF 0 (intD l pt)) (fracD l pt)
  let n := if (dbl b.2).1 = 1 ∧ (neg = false ∨ ((dbl b.2).2.any fun d => decide (d ≠ 0)) = true) then b.1 + 1 else b.1
  let v : Int := if neg = true then -(n : Int) else n
  if -2147483648 ≤ v ∧ v ≤ 2147483648 then some v else none

def parseS (s : List UInt8) : Int × Int :=
  if 40 < s.length then (0, 3) else
  match decD s with
  | none => (0, 5)
  | some (neg, l, pt) => match valS neg l pt with | some v => (v, 0) | none => (0, 6)

theorem bitsF_lt : ∀ (m n : Nat) (l : List Nat), (∀ d ∈ l, d < 10) → (bitsF m n l).1 + 1 ≤ (n + 1) * 2 ^ m
  | 0, n, l, _ => by simp [bitsF]
  | m + 1, n, l, h => by
    have := dbl_carry l h
    have ih := bitsF_lt m (2 * n + (dbl l).1) (dbl l).2 (dbl_lt l)
    simp only [bitsF]
    refine Nat.le_trans ih ?_
    rw [Nat.pow_succ, Nat.mul_comm (2 ^ m) 2, ← Nat.mul_assoc]
    exact Nat.mul_le_mul_right _ (by omega)

theorem wrapN {n : Nat} (h : n + 1 ≤ 140737488420864) : IntKind.i64.wrap ((n : Int) + 1) = n + 1 ∧ IntKind.i64.wrap (-(n : Int)) = -n ∧ IntKind.i64.wrap (-((n : Int) + 1)) = -(n + 1) ∧ IntKind.i64.wrap (-1 + -(n : Int)) = -(n + 1) := by
  obtain ⟨M, hM⟩ : ∃ M : Int, M = 140737488420864 := ⟨_, rfl⟩
  have h1 : (n : Int) + 1 ≤ M := by omega
  have a : -9223372036854775808 ≤ -M := by rw [hM]; decide
  have b : M ≤ 9223372036854775807 := by rw [hM]; decide
  have c : -9223372036854775808 ≤ (0 : Int) := by decide
  clear hM h
  refine ⟨wrap64' (Int.le_trans c (by omega)) (Int.le_trans h1 b), wrap64' (Int.le_trans a (by omega)) (Int.le_trans (show -(n : Int) ≤ M by omega) b), wrap64' (Int.le_trans a (by omega)) (Int.le_trans (show -((n : Int) + 1) ≤ M by omega) b), ?_⟩
  rw [show -1 + -(n : Int) = -((n : Int) + 1) by omega]
  exact wrap64' (Int.le_trans a (by omega)) (Int.le_trans (show -((n : Int) + 1) ≤ M by omega) b)

theorem parse_tells (H : B.H_real_Parse T) (hwf : st.Wf) {s : List UInt8} : Tells T st (.fn 100 [] []) [.str s] (.tuple [.int .i64 (parseS s).1, .int .i64 (parseS s).2]) := by
  refine tells_of H.e H.f rfl ?_
  by_cases hlong : 40 < s.length
  · have hlong' : (40 : Int) < s.length := by omega
    simp [B.real_Parse, go_sem, hlong, hlong', parseS, Ext.refl hwf]
  have hlong' : ¬ (40 : Int) < s.length := by omega
  have hx := Ext.new hwf (.cells 187 false [.str s, .int .i64 0])
  have hq : ScnAt ⟨(st.nx, .cells 187 false [.str s, .int .i64 0]) :: st.h, st.nx + 1⟩ st.nx s 0 := by simp [ScnAt, hget_cons]
  have hps : parseS s = (match decD s with | none => (0, 5) | some (neg, l, pt) => match valS neg l pt with | some v => (v, 0) | none => (0, 6)) := by simp only [parseS, if_neg hlong]
  simp [B.real_Parse, go_sem, hlong', NO.run]
  refine (decimal_res H.real_scanner_decimal hx.wf (by omega) hq).mono ?_
  rintro v1 s1 ⟨f1, ho⟩
  have x1 : Ext st s1 := hx.frm f1 (by simp)
  cases hdec : decD s with
  | none =>
    rw [hdec] at ho hps
    obtain ⟨a, b, c, rfl⟩ := ho
    simp [go_sem, hps, x1]
  | some o =>
    obtain ⟨neg, l, pt⟩ := o
    rw [hdec] at ho hps
    obtain ⟨sv, rfl, hl, hm⟩ := ho
    obtain ⟨k1, k2, k3, k4⟩ := decD_facts hdec
    have hgd : ∀ i, l.getD i 0 < 10 := fun i => by
      rw [List.getD_eq_getElem?_getD]
      cases h : l[i]? with
      | none => simp
      | some d => exact k2 d (List.mem_of_getElem? h)
    simp only at hps
    simp [go_sem]
    refine (front_tells H.real_front f1.wf hgd (by omega) (by omega) hl.slR).use fun s2 hs2 => ?_
    have hl2 := hl.ext hs2 f1.wf
    simp [go_sem]
    refine (fraction_res H.real_fraction hs2.wf (by omega) (by omega) hl2.slR).mono ?_
    rintro v2 s3 ⟨x3, hf, hm2, hnk2⟩
    have x13 := (x1.trans hs2).trans x3
    have hge : ∀ n ∈ v2.nms, st.nx ≤ n := fun n hn => by
      rcases hm2 n hn with h | h
      · cases h
      · exact Nat.le_trans (x1.trans hs2).nx h
    by_cases hbig : 2147483648 < frontF 0 (intD l pt)
    · have hbig' : (2147483648 : Int) < frontF 0 (intD l pt) := by omega
      have : valS neg l pt = none := by simp only [valS, if_pos hbig]
      rw [this] at hps
      simp [go_sem, hbig', hps, x13]
    have hbig' : ¬ (2147483648 : Int) < frontF 0 (intD l pt) := by omega
    simp [go_sem, hbig']
    have hfd : ∀ d ∈ fracD l pt, d < 10 := fun d hd => by
      unfold fracD at hd
      rcases List.mem_append.1 hd with hd | hd
      · have := List.eq_of_mem_replicate hd; omega
      · exact k2 d (List.mem_of_mem_drop hd)
    have hfl : (fracD l pt).length < 10000 := by simp [fracD]; omega
    have hval : valS neg l pt = (let b := bitsF 16 (frontF 0 (intD l pt)) (fracD l pt)
      let n := if (dbl b.2).1 = 1 ∧ (neg = false ∨ ((dbl b.2).2.any fun d => decide (d ≠ 0)) = true) then b.1 + 1 else b.1
      let v : Int := if neg = true then -(n : Int) else n
      if -2147483648 ≤ v ∧ v ≤ 2147483648 then some v else none) := by simp only [valS, if_neg hbig]
    have hb16 := bitsF_lt 16 (frontF 0 (intD l pt)) (fracD l pt) hfd
    refine (bits_loop H.real_double s3 (v := v2) (neg := neg) 16 (frontF 0 (intD l pt)) (fracD l pt) _ s3 (by omega) (by omega) hfd (by omega) (.refl x3.wf _) hf ?_ ?_ ?_ ?_).mono ?_
    · simp [go_sem]
    · simp [go_sem]
    · simp [go_sem]
    · simp [go_sem]
    rintro x e4 s4 ⟨rfl, f4, h4, g9, g5, g10, hd4, hl4⟩
    generalize hB : bitsF 16 (frontF 0 (intD l pt)) (fracD l pt) = b at *
    simp [go_sem, g5, g9, g10]
    refine (double_res H.real_double f4.wf hd4 (by omega) h4).mono ?_
    rintro r s5 ⟨rfl, f5, h5⟩
    have x15 : Ext st s5 := (x13.frm f4 hge).frm f5 hge
    have hlen5 := h5.lenOf (ev := fun _ => v2) (x := .t 0) rfl
    simp [PO.run] at hlen5
    have hbl : (dbl b.2).2.length < 10000 := by rw [dbl_len]; omega
    simp [go_sem, hlen5]
    refine (more_loop (v := v2) (l := (dbl b.2).2) (by omega) s5 f5.wf h5.slR (neg := neg) (half := decide (((dbl b.2).1 : Int) = 1)) (n := b.1) (dbl b.2).2.length 0 false _ (by simp) ?_ ?_ ?_ ?_ ?_ ?_ ?_).mono ?_
    · simp [go_sem]
    · simp [go_sem]
    · simp [go_sem]
    · simp [go_sem]
    · simp [go_sem]
    · simp [go_sem]
    · simp [go_sem]
    rintro x e6 s6 ⟨rfl, rfl, u12, u5, u9, u11⟩
    simp only [Bool.false_or, List.drop_zero] at u12
    simp only at hval
    generalize hM : ((dbl b.2).2.any fun d => decide (d ≠ 0)) = mo at u12 hval
    generalize hC : (dbl b.2).1 = c at u11 hval
    obtain ⟨bn, hbn⟩ : ∃ bn, bn = b.1 := ⟨_, rfl⟩
    rw [← hbn] at u9 hval hb16
    have hbn2 : bn + 1 ≤ 140737488420864 := Nat.le_trans hb16 (Nat.le_trans (Nat.mul_le_mul (show frontF 0 (intD l pt) + 1 ≤ 2147483649 by omega) (Nat.le_refl (2 ^ 16))) (by decide))
    clear hb16
    have fin : ∀ (V : Int), valS neg l pt = (if -2147483648 ≤ V ∧ V ≤ 2147483648 then some V else none) → ∃ bv : Bool, Tells T s6 (.fn 110 [] []) [.int .i64 V] (.bool bv) ∧ ((bv = true ∧ parseS s = (V, 0)) ∨ (bv = false ∧ parseS s = (0, 6))) := by
      intro V hV
      refine ⟨_, realIs_tells H.real_Is f5.wf, ?_⟩
      by_cases hr : -2147483648 ≤ V ∧ V ≤ 2147483648
      · left
        rw [if_pos hr] at hV
        rw [hV] at hps
        exact ⟨by simp [hr.1, hr.2], hps⟩
      · right
        rw [if_neg hr] at hV
        rw [hV] at hps
        refine ⟨?_, hps⟩
        rw [← Bool.not_eq_true]
        simpa using hr
    obtain ⟨w1, w2, w3, w4⟩ := wrapN hbn2
    clear hbn2
    cases neg <;> cases mo <;> by_cases hc1 : c = 1
    all_goals
      try have hc2 : (c : Int) = 1 := by omega
      try have hc2 : ¬ (c : Int) = 1 := by omega
      simp [go_sem, u12, u5, u9, u11, hc1, hc2, w1, w2, w3, w4]
      obtain ⟨bv, g1, g2⟩ := fin _ hval
      simp [hc1] at g1 g2
      refine CRes.mono g1 ?_
      rintro v7 s7 ⟨rfl, hs7⟩
      have x17 := x15.trans hs7
      rcases g2 with ⟨g2, g3⟩ | ⟨g2, g3⟩
      · simp [go_sem, g2, g3, x17]
      · simp [go_sem, g2, g3, x17]

end Go.Ev

/- strings.ContainsAny with ASCII characters, for any text. -/
namespace Go.Ev
open Go
set_option linter.unusedSimpArgs false
set_option linter.unusedSectionVars false
set_option linter.unusedVariables false

variable {T : Tab} {st : St}

def ascii (l : List UInt8) : Prop := ∀ c ∈ l, c.toNat < 128

theorem rune_low {s : List UInt8} {p : Nat} {c : UInt8} (hc : s[p]? = some c) (h : c.toNat < 128) : runeAt s p = (c.toNat, 1) := by
  have hlt := (List.getElem?_eq_some_iff.1 hc).1
  have he := (List.getElem?_eq_some_iff.1 hc).2
  have hs : p < (⟨s.toArray⟩ : ByteArray).size := by simpa [ByteArray.size] using hlt
  have hb : ((⟨s.toArray⟩ : ByteArray)[p]'hs) = c := by rw [← he]; rfl
  have := decode_ascii ⟨s.toArray⟩ p hs (by rw [hb]; exact h)
  rw [hb] at this
  exact this

theorem get_bang {s : List UInt8} {k : Nat} (h : k < s.length) : (⟨s.toArray⟩ : ByteArray).get! k = s[k] := by
  simp [ByteArray.get!, h]

/-- A rune that is not ASCII: it is 128 or greater, and no ASCII octet lies within it. -/
theorem rune_high {s : List UInt8} {p : Nat} {c : UInt8} (hc : s[p]? = some c) (h : 128 ≤ c.toNat) :
    128 ≤ (runeAt s p).1 ∧ (runeAt s p).1 ≤ 2147483647 ∧ 1 ≤ (runeAt s p).2 ∧ p + (runeAt s p).2 ≤ s.length ∧ ∀ j, j < (runeAt s p).2 → ∀ d, s[p + j]? = some d → 128 ≤ d.toNat := by
  have hlt := (List.getElem?_eq_some_iff.1 hc).1
  have he := (List.getElem?_eq_some_iff.1 hc).2
  have hs : p < (⟨s.toArray⟩ : ByteArray).size := by simpa [ByteArray.size] using hlt
  have hb : ((⟨s.toArray⟩ : ByteArray)[p]'hs) = c := by rw [← he]; rfl
  have h1 := decode_high ⟨s.toArray⟩ p hs (by rw [hb]; exact h)
  have h2 := decode_le ⟨s.toArray⟩ p
  have hsz : (⟨s.toArray⟩ : ByteArray).size = s.length := by simp [ByteArray.size]
  have hcont : ∀ k, p + k < s.length → ((⟨s.toArray⟩ : ByteArray).get! (p + k)).toNat / 64 = 2 → ∀ d, s[p + k]? = some d → 128 ≤ d.toNat := by
    intro k hk hq d hd
    rw [get_bang hk] at hq
    have : s[p + k] = d := (List.getElem?_eq_some_iff.1 hd).2
    rw [this] at hq
    omega
  have h0 : ∀ d, s[p + 0]? = some d → 128 ≤ d.toNat := fun d hd => by
    rw [Nat.add_zero, hc] at hd
    cases hd
    exact h
  refine ⟨h1.1, h2, h1.2, ?_⟩
  have hg0 : (⟨s.toArray⟩ : ByteArray).get! (p + 0) = c := by rw [Nat.add_zero, get_bang hlt, he]
  unfold runeAt Utf8.decode
  simp only [hg0, hsz]
  have hn : ¬ c.toNat < 128 := by omega
  rw [if_neg hn]
  have one : p + 1 ≤ s.length ∧ ∀ j, j < 1 → ∀ d, s[p + j]? = some d → 128 ≤ d.toNat := ⟨by omega, fun j hj => by rw [show j = 0 by omega]; exact h0⟩
  split
  · rename_i hq
    simp only [Bool.and_eq_true, decide_eq_true_eq, beq_iff_eq] at hq
    split
    · refine ⟨by simp only; omega, fun j hj d hd => ?_⟩
      simp only at hj
      rcases (show j = 0 ∨ j = 1 by omega) with rfl | rfl
      · exact h0 d hd
      · exact hcont 1 hq.2.1 hq.2.2 d hd
    · exact one
  · split
    · rename_i hq
      simp only [Bool.and_eq_true, decide_eq_true_eq, beq_iff_eq] at hq
      split
      · refine ⟨by simp only; omega, fun j hj d hd => ?_⟩
        simp only at hj
        rcases (show j = 0 ∨ j = 1 ∨ j = 2 by omega) with rfl | rfl | rfl
        · exact h0 d hd
        · exact hcont 1 hq.1.2.1 hq.1.2.2 d hd
        · exact hcont 2 hq.2.1 hq.2.2 d hd
      · exact one
    · split
      · rename_i hq
        simp only [Bool.and_eq_true, decide_eq_true_eq, beq_iff_eq] at hq
        split
        · refine ⟨by simp only; omega, fun j hj d hd => ?_⟩
          simp only at hj
          rcases (show j = 0 ∨ j = 1 ∨ j = 2 ∨ j = 3 by omega) with rfl | rfl | rfl | rfl
          · exact h0 d hd
          · exact hcont 1 hq.1.1.2.1 hq.1.1.2.2 d hd
          · exact hcont 2 hq.1.2.1 hq.1.2.2 d hd
          · exact hcont 3 hq.2.1 hq.2.2 d hd
        · exact one
      · exact one

/-- A rune's octets, where it is not ASCII. -/
theorem runeStr_high {r : Int} (h : 128 ≤ r) : 2 ≤ (runeStr r).length ∧ (runeStr r).length ≤ 4 ∧ ∀ c ∈ runeStr r, 128 ≤ c.toNat := by
  have hmod : ∀ n : Nat, n < 256 → (UInt8.ofNat n).toNat = n := fun n hn => by rw [UInt8.toNat_ofNat', Nat.mod_eq_of_lt hn]
  unfold runeStr Utf8.encode
  simp only
  have hc : ∃ c : Nat, (if Utf8.valid r = true then r.toNat else Utf8.runeError) = c ∧ 128 ≤ c ∧ c ≤ 1114111 := by
    refine ⟨_, rfl, ?_⟩
    split
    · rename_i hv
      simp only [Utf8.valid, Bool.or_eq_true, Bool.and_eq_true, decide_eq_true_eq] at hv
      omega
    · simp [Utf8.runeError]
  obtain ⟨c, hc, h1, h2⟩ := hc
  rw [hc, if_neg (by omega)]
  split
  · refine ⟨by simp, by simp, fun d hd => ?_⟩
    simp only [List.mem_cons, List.not_mem_nil, or_false] at hd
    rcases hd with rfl | rfl
    · rw [hmod _ (by omega)]; omega
    · rw [hmod _ (by omega)]; omega
  · split
    · refine ⟨by simp, by simp, fun d hd => ?_⟩
      simp only [List.mem_cons, List.not_mem_nil, or_false] at hd
      rcases hd with rfl | rfl | rfl
      · rw [hmod _ (by omega)]; omega
      · rw [hmod _ (by omega)]; omega
      · rw [hmod _ (by omega)]; omega
    · refine ⟨by simp, by simp, fun d hd => ?_⟩
      simp only [List.mem_cons, List.not_mem_nil, or_false] at hd
      rcases hd with rfl | rfl | rfl | rfl
      · rw [hmod _ (by omega)]; omega
      · rw [hmod _ (by omega)]; omega
      · rw [hmod _ (by omega)]; omega
      · rw [hmod _ (by omega)]; omega

theorem indexByte_mem : ∀ (l : List UInt8) (c : UInt8), 0 ≤ Lib.indexByte l c ↔ c ∈ l
  | [], c => by simp [Lib.indexByte]
  | b :: l, c => by
    have ih := indexByte_mem l c
    have hge := Lib.indexByte_ge l c
    simp only [Lib.indexByte, List.mem_cons]
    by_cases hbc : b = c
    · subst hbc; simp
    · rw [if_neg (by simpa using hbc)]
      have hcb : ¬ c = b := fun e => hbc e.symm
      split
      · rename_i h
        have : Lib.indexByte l c = -1 := by simpa using h
        simp only [hcb, false_or]
        rw [← ih]
        omega
      · rename_i h
        have : ¬ Lib.indexByte l c = -1 := by simpa using h
        simp only [hcb, false_or]
        rw [← ih]
        omega

theorem validRune_tells (H : B.H_unicode_utf8_ValidRune T) (hwf : st.Wf) {r : Int} (h0 : 0 ≤ r) : ∃ b, Tells T st (.fn 147 [] []) [.int .i32 r] (.bool b) := by
  by_cases h1 : r < 55296
  · exact ⟨true, by refine tells_of H.e H.f rfl ?_; simp [B.unicode_utf8_ValidRune, go_sem, h0, h1, Ext.refl hwf]⟩
  · by_cases h2 : 57343 < r
    · by_cases h3 : r ≤ 1114111
      · exact ⟨true, by refine tells_of H.e H.f rfl ?_; simp [B.unicode_utf8_ValidRune, go_sem, h0, h1, h2, h3, Ext.refl hwf]⟩
      · exact ⟨false, by refine tells_of H.e H.f rfl ?_; simp [B.unicode_utf8_ValidRune, go_sem, h0, h1, h2, h3, Ext.refl hwf]⟩
    · exact ⟨false, by refine tells_of H.e H.f rfl ?_; simp [B.unicode_utf8_ValidRune, go_sem, h0, h1, h2, Ext.refl hwf]⟩

theorem runeloop {chars : List UInt8} (ha : ascii chars) (hlen : chars.length < 1000000000) (st0 : St) {q : Nat} : ∀ (m p : Nat) (e : Env) (st1 : St), p + m = chars.length → Frm [q] st0 st1 → hget st1.h q = some (.iter chars p) → eget e 175 = .ptr q 0 →
    Res (run T (.loop B.strings_IndexRune_l0) e st1) fun x e' s' => x = .exit 9 ∧ Frm [q] st0 s' := by
  intro m
  induction m with
  | zero =>
    intro p e st1 hi hf hq g
    have hp : ¬ p < chars.length := by omega
    rw [run_loop]
    simp [B.strings_IndexRune_l0, go_sem, g, WO.run, hq, hp, hf]
  | succ m ih =>
    intro p e st1 hi hf hq g
    have hp : p < chars.length := by omega
    obtain ⟨c, hc, _⟩ := idx_some hp
    have hc128 := ha c (List.mem_of_getElem? hc)
    have hr := rune_low hc hc128
    have hne : ¬ (c.toNat : Int) = 65533 := by omega
    rw [run_loop]
    simp [B.strings_IndexRune_l0, go_sem, g, WO.run, hq, hp, hr, hne]
    refine (ih (p + 1) _ ⟨_, st1.nx⟩ (by omega) (hf.trans (Frm.set hf.wf hq) (by simp)) (hget_hset_self hq) ?_).mono fun x e' s' h => h
    simp [go_sem]

theorem indexRune_high (H : B.H_strings_IndexRune T) (hwf : st.Wf) {chars : List UInt8} (ha : ascii chars) (hlen : chars.length < 1000000000) {r : Int} (h1 : 128 ≤ r) : Tells T st (.fn 143 [] []) [.str chars, .int .i32 r] (.int .i64 (-1)) := by
  refine tells_of H.e H.f rfl ?_
  have n1 : ¬ r < 128 := by omega
  have n0 : 0 ≤ r := by omega
  by_cases hre : r = 65533
  · subst hre
    have hx := Ext.new hwf (.iter chars 0)
    simp [B.strings_IndexRune, go_sem, NO.run]
    refine (runeloop (T := T) ha hlen ⟨(st.nx, .iter chars 0) :: st.h, st.nx + 1⟩ (q := st.nx) chars.length 0 _ _ (by simp) (.refl hx.wf _) (by simp [hget_cons]) ?_).mono ?_
    · simp [go_sem]
    · rintro x e s' ⟨rfl, h⟩
      simp [go_sem]
      exact hx.frm h (by simp)
  · simp [B.strings_IndexRune, go_sem, n1, n0, hre]
    obtain ⟨b, hb⟩ := validRune_tells H.unicode_utf8_ValidRune hwf n0
    refine hb.use fun s1 hs1 => ?_
    cases b with
    | false => simp [go_sem, hs1]
    | true =>
      obtain ⟨l1, l2, l3⟩ := runeStr_high h1
      generalize hR : runeStr r = R at l1 l2 l3
      have hlast : ∃ c, R[R.length - 1]? = some c ∧ 128 ≤ c.toNat := by
        have : R.length - 1 < R.length := by omega
        exact ⟨R[R.length - 1], List.getElem?_eq_getElem this, l3 _ (List.getElem_mem this)⟩
      obtain ⟨c, hc, hc128⟩ := hlast
      have e1 : IntKind.i64.wrap ((R.length : Int) - 1) = R.length - 1 := wrap64' (by omega) (by omega)
      have e2 : ((R.length : Int) - 1).toNat = R.length - 1 := by omega
      have e3 : (0 : Int) ≤ (R.length : Int) - 1 := by omega
      have e6 : (1 : Int) ≤ (R.length : Int) := by omega
      simp [go_sem, hR, e1]
      rw [run_loop]
      by_cases hlt : (R.length : Int) - 1 < chars.length
      · obtain ⟨d, hd, _⟩ := idx_some (s := chars) (i := R.length - 1) (by omega)
        have hd128 := ha d (List.mem_of_getElem? hd)
        have hne : ¬ (d.toNat : Int) = c.toNat := by omega
        have hne' : ¬ d.toNat = c.toNat := by omega
        have hsub := asubS_from (s := chars) (i := (R.length : Int) - 1 + 1) (k := .i64) (by omega) (by omega)
        have e4 : IntKind.i64.wrap ((R.length : Int) - 1 + 1) = R.length - 1 + 1 := wrap64' (by omega) (by omega)
        have e5 : ((R.length : Int) - 1 + 1) = R.length := by omega
        rw [e5] at hsub e4
        have hcall := fun st => indexByte_call (st := st) H.strings_IndexByte (s := chars.drop R.length) (c := c.toNat)
        have hnone : Lib.indexByte (chars.drop R.length) c < 0 := by
          rw [← Int.not_le, indexByte_mem]
          intro hmem
          have := ha c (List.mem_of_mem_drop hmem)
          omega
        have hx1 := Ext.aside hs1.wf 7
        have hx2 := Ext.aside hx1.wf 9
        simp at hx2
        have w0 : IntKind.i64.wrap (R.length : Int) = R.length := wrap64' (by omega) (by omega)
        have t0 : (R.length : Int).toNat = R.length := by omega
        rw [t0] at hsub
        simp [B.strings_IndexRune_l2, go_sem, hlt, hd, hc, hne, hne', e2, e3, e4, e5, e6, w0, hsub, hcall, hnone]
        exact hs1.trans (hx1.trans hx2)
      · simp [B.strings_IndexRune_l2, go_sem, hlt, hs1]

theorem indexRune_low (H : B.H_strings_IndexRune T) (hwf : st.Wf) {chars : List UInt8} {c : UInt8} (hc : c.toNat < 128) : Tells T st (.fn 143 [] []) [.str chars, .int .i32 c.toNat] (.int .i64 (Lib.indexByte chars c)) := by
  refine tells_of H.e H.f rfl ?_
  have h1 : (c.toNat : Int) < 128 := by omega
  have hw : IntKind.u8.wrap (c.toNat : Int) = c.toNat := wrap_u8 (by omega) (by omega)
  have hcall := fun st => indexByte_call (st := st) H.strings_IndexByte (s := chars) (c := c.toNat)
  simp [B.strings_IndexRune, go_sem, h1, hw, hcall, Ext.refl hwf]

end Go.Ev

/- strings.ContainsAny told. -/
namespace Go.Ev
open Go
set_option linter.unusedSimpArgs false
set_option linter.unusedSectionVars false
set_option linter.unusedVariables false

variable {T : Tab} {st : St}

def setC (l : List UInt8) : List AV := (List.range 256).map fun i => .bool (decide (UInt8.ofNat i ∈ l))
theorem setC_len (l : List UInt8) : (setC l).length = 256 := by simp [setC]
theorem setC_nil : List.replicate 256 (AV.bool false) = setC [] := by
  apply List.ext_getElem?
  intro i
  simp only [setC, List.getElem?_map]
  by_cases hi : i < 256
  · rw [List.getElem?_replicate, if_pos hi, List.getElem?_range hi]
    simp
  · rw [List.getElem?_replicate, if_neg hi, List.getElem?_eq_none (by simp; omega)]
    rfl
theorem setC_get (l : List UInt8) (c : UInt8) : (setC l)[c.toNat]? = some (.bool (decide (c ∈ l))) := by
  have := c.toNat_lt
  simp only [setC, List.getElem?_map]
  rw [List.getElem?_range (by omega)]
  simp
theorem setC_snoc (l : List UInt8) (c : UInt8) : (setC l).set c.toNat (.bool true) = setC (l ++ [c]) := by
  apply List.ext_getElem?
  intro i
  by_cases hi : i < 256
  · have h1 : ∀ l, (setC l)[i]? = some (.bool (decide (UInt8.ofNat i ∈ l))) := fun l => by
      have := setC_get l (UInt8.ofNat i)
      rwa [UInt8.toNat_ofNat', Nat.mod_eq_of_lt (by omega)] at this
    rw [List.getElem?_set, h1, h1]
    by_cases hc : c.toNat = i
    · subst hc
      simp [setC_len, hi]
    · rw [if_neg hc]
      have : ¬ UInt8.ofNat i = c := fun e => hc (by rw [← e, UInt8.toNat_ofNat', Nat.mod_eq_of_lt (by omega)])
      simp [this]
  · rw [List.getElem?_eq_none (by simp [setC_len]; omega), List.getElem?_eq_none (by simp [setC_len]; omega)]
theorem setC_sc (l : List UInt8) : (setC l).all AV.sc = true := by simp [setC, AV.sc]

theorem make_loop {chars : List UInt8} (ha : ascii chars) (hlen : chars.length < 1000000000) (st0 : St) {q : Nat} : ∀ (m i : Nat) (e : Env) (st1 : St), i + m = chars.length → Frm [q] st0 st1 → hget st1.h q = some (.cells 197 true (setC (chars.take i))) →
    eget e 0 = .str chars → eget e 2 = .ptr q 0 → eget e 4 = .int .i64 i →
    Res (run T (.loop B.strings_makeASCIISet_l0) e st1) fun x e' s' => x = .exit 0 ∧ Frm [q] st0 s' ∧ hget s'.h q = some (.cells 197 true (setC chars)) ∧ eget e' 2 = .ptr q 0 := by
  intro m
  induction m with
  | zero =>
    intro i e st1 hi hf hq g0 g2 g4
    have hil : i = chars.length := by omega
    subst hil
    rw [List.take_length] at hq
    rw [run_loop]
    simp [B.strings_makeASCIISet_l0, go_sem, g0, g2, g4]
    exact ⟨hf, hq⟩
  | succ m ih =>
    intro i e st1 hi hf hq g0 g2 g4
    have hil : i < chars.length := by omega
    have hil' : (i : Int) < chars.length := by omega
    obtain ⟨c, hc, _⟩ := idx_some hil
    have hc128 := ha c (List.mem_of_getElem? hc)
    have hn : ¬ (128 : Int) ≤ c.toNat := by omega
    have hlt : (c.toNat : Int) < 256 := by omega
    have hw := wr_cells hq (v := .bool true) rfl (o := c.toNat) (by rw [setC_len]; omega)
    have htk : chars.take (i + 1) = chars.take i ++ [c] := by
      rw [List.take_succ_eq_append_getElem hil, (List.getElem?_eq_some_iff.1 hc).2]
    rw [setC_snoc, ← htk] at hw
    have e1 : IntKind.i64.wrap ((i : Int) + 1) = ((i + 1 : Nat) : Int) := wrap64' (by omega) (by omega)
    rw [run_loop]
    simp [B.strings_makeASCIISet_l0, go_sem, g0, g2, g4, hil', hc, hn, hlt, WO.run, hw]
    refine (ih (i + 1) _ ⟨_, st1.nx⟩ (by omega) (hf.trans (Frm.set hf.wf hq) (by simp)) (hget_hset_self hq) ?_ ?_ ?_).mono fun x e' s' h => h
    · simp [go_sem]
    · simp [go_sem]
    · simp [go_sem, e1]

theorem makeSet_tells (H : B.H_strings_makeASCIISet T) (hwf : st.Wf) {chars : List UInt8} (ha : ascii chars) (hlen : chars.length < 1000000000) : Tells T st (.fn 145 [] []) [.str chars] (.tuple [.agg (setC chars), .bool true]) := by
  refine tells_of H.e H.f rfl ?_
  have hx := Ext.new hwf (.cells 197 true (setC []))
  have h0 : List.replicate 256 (AV.bool false) = setC [] := setC_nil
  simp only [B.strings_makeASCIISet, h0]
  simp [go_sem, NO.run]
  refine (make_loop (T := T) ha hlen ⟨(st.nx, .cells 197 true (setC [])) :: st.h, st.nx + 1⟩ (q := st.nx) chars.length 0 _ _ (by simp) (.refl hx.wf _) (by simp [hget_cons]) ?_ ?_ ?_).mono ?_
  · simp [go_sem]
  · simp [go_sem]
  · simp [go_sem]
  · rintro x e s' ⟨rfl, f1, g1, g2⟩
    have hr := rd_all g1 (k := 256) (setC_len _)
    have hw := wr_all g1 (vs := setC chars) rfl (setC_sc _)
    have hg := hget_hset_self g1 (o := .cells 197 true (setC chars))
    simp [go_sem, g2, RO.run, WO.run, hr, setC_len, hw, fresults, resVals, resVal, rd_all hg (k := 256) (setC_len _)]
    exact hx.frm (f1.trans (Frm.set f1.wf g1) (by simp)) (by simp)

theorem contains_tells (H : B.H_strings_asciiSet_contains T) (hwf : st.Wf) {q : Nat} {b : Bool} {chars : List UInt8} (hq : hget st.h q = some (.cells 197 b (setC chars))) (c : UInt8) : Tells T st (.fn 146 [] []) [.ptr q 0, .int .u8 c.toNat] (.bool (decide (c ∈ chars))) := by
  refine tells_of H.e H.f rfl ?_
  have hlt : (c.toNat : Int) < 256 := by have := c.toNat_lt; omega
  have hr : rdCell st.h q c.toNat = some (.bool (decide (c ∈ chars))) := by simp [rdCell, hq, setC_get]
  simp [B.strings_asciiSet_contains, go_sem, hlt, RO.run, hr, Ext.refl hwf]

/-- Is any octet one of the characters? -/
def anyOf (chars s : List UInt8) : Bool := s.any fun c => decide (c ∈ chars)

theorem long_loop (H : B.H_strings_asciiSet_contains T) {s chars : List UInt8} (hlen : s.length < 9223372036854775807) {q : Nat} {b : Bool} (st0 : St) (hq0 : hget st0.h q = some (.cells 197 b (setC chars))) (hw0 : st0.Wf) : ∀ (m i : Nat) (e : Env) (st1 : St), i + m = s.length → Ext st0 st1 →
    eget e 0 = .str s → eget e 6 = .ptr q 0 → eget e 8 = .int .i64 i →
    Res (run T (.loop B.strings_IndexAny_l0) e st1) fun x e' s' => Ext st0 s' ∧ ((x = .exit 0 ∧ anyOf chars (s.drop i) = false) ∨ (x = .ret ∧ anyOf chars (s.drop i) = true ∧ ∃ j : Nat, eget e' 4 = .int .i64 j)) := by
  intro m
  induction m with
  | zero =>
    intro i e st1 hi hx g0 g6 g8
    have hil : i = s.length := by omega
    subst hil
    rw [run_loop]
    simp [B.strings_IndexAny_l0, go_sem, g0, g6, g8, hx, anyOf]
  | succ m ih =>
    intro i e st1 hi hx g0 g6 g8
    have hil : i < s.length := by omega
    have hil' : (i : Int) < s.length := by omega
    obtain ⟨c, hc, hd⟩ := idx_some hil
    have hcall := contains_tells H hx.wf (hx.get hw0 hq0) c
    have e1 : IntKind.i64.wrap ((i : Int) + 1) = ((i + 1 : Nat) : Int) := wrap64' (by omega) (by omega)
    rw [run_loop]
    simp [B.strings_IndexAny_l0, go_sem, g0, g6, g8, hil', hc]
    refine hcall.use fun s1 hs1 => ?_
    by_cases hin : c ∈ chars
    · simp [go_sem, hin, hd, anyOf, hx.trans hs1]
      exact ⟨i, rfl⟩
    · have hany : anyOf chars (s.drop i) = anyOf chars (s.drop (i + 1)) := by rw [hd]; simp [anyOf, hin]
      simp only [hany]
      simp [go_sem, hin]
      refine (ih (i + 1) _ s1 (by omega) (hx.trans hs1) ?_ ?_ ?_).mono fun x e' s' h => h
      · simp [go_sem]
      · simp [go_sem]
      · simp [go_sem, e1]

theorem short_loop (H : B.H_strings_IndexRune T) {s chars : List UInt8} (ha : ascii chars) (hcl : chars.length < 1000000000) (hlen : s.length < 9223372036854775807) (st0 : St) {q : Nat} : ∀ (m p : Nat) (e : Env) (st1 : St), s.length ≤ p + m → p ≤ s.length → Frm [q] st0 st1 → hget st1.h q = some (.iter s p) →
    eget e 1 = .str chars → eget e 45 = .ptr q 0 →
    Res (run T (.loop B.strings_IndexAny_l1) e st1) fun x e' s' => Frm [q] st0 s' ∧ ((x = .exit 2 ∧ anyOf chars (s.drop p) = false) ∨ (x = .ret ∧ anyOf chars (s.drop p) = true ∧ ∃ j : Nat, eget e' 4 = .int .i64 j)) := by
  intro m
  induction m with
  | zero =>
    intro p e st1 hi hple hf hq g1 g45
    have hp : ¬ p < s.length := by omega
    rw [run_loop, List.drop_of_length_le (by omega)]
    simp [B.strings_IndexAny_l1, go_sem, g1, g45, WO.run, hq, hp, hf, anyOf]
  | succ m ih =>
    intro p e st1 hi hple hf hq g1 g45
    by_cases hp : p < s.length
    · obtain ⟨c, hc, hd⟩ := idx_some hp
      rw [run_loop]
      by_cases h128 : c.toNat < 128
      · have hr := rune_low hc h128
        have f1 := hf.trans (Frm.set hf.wf hq (o := .iter s (p + 1))) (by simp)
        have hq1 := hget_hset_self hq (o := .iter s (p + 1))
        have hcall := indexRune_low (st := ⟨hset st1.h q (.iter s (p + 1)), st1.nx⟩) H f1.wf (chars := chars) h128
        simp [B.strings_IndexAny_l1, go_sem, g1, g45, WO.run, hq, hp, hr]
        refine hcall.use fun s1 hs1 => ?_
        have f2 := f1.trans (hs1.fr [q]) (by simp)
        by_cases hin : c ∈ chars
        · have h0 := (indexByte_mem chars c).2 hin
          have hany : anyOf chars (s.drop p) = true := by rw [hd]; simp [anyOf, hin]
          simp [go_sem, h0, hany, f2]
          exact ⟨p, rfl⟩
        · have h0 : ¬ 0 ≤ Lib.indexByte chars c := fun h => hin ((indexByte_mem chars c).1 h)
          have hany : anyOf chars (s.drop p) = anyOf chars (s.drop (p + 1)) := by rw [hd]; simp [anyOf, hin]
          simp only [hany]
          simp [go_sem, h0]
          refine (ih (p + 1) _ s1 (by omega) (by omega) f2 (hs1.get f1.wf hq1) ?_ ?_).mono fun x e' s' h => h
          · simp [go_sem]
          · simp [go_sem]
      · obtain ⟨r1, r2, r3, r4, r5⟩ := rune_high hc (by omega)
        generalize hR : runeAt s p = R at r1 r2 r3 r4 r5
        have f1 := hf.trans (Frm.set hf.wf hq (o := .iter s (p + R.2))) (by simp)
        have hq1 := hget_hset_self hq (o := .iter s (p + R.2))
        have hcall := indexRune_high (st := ⟨hset st1.h q (.iter s (p + R.2)), st1.nx⟩) H f1.wf (chars := chars) ha hcl (r := (R.1 : Int)) (by omega)
        have hany : anyOf chars (s.drop p) = anyOf chars (s.drop (p + R.2)) := by
          have : s.drop p = (s.drop p).take R.2 ++ s.drop (p + R.2) := by rw [← List.drop_drop, List.take_append_drop]
          rw [this]
          simp only [anyOf, List.any_append]
          have hz : ((s.drop p).take R.2).any (fun c => decide (c ∈ chars)) = false := by
            rw [List.any_eq_false]
            intro d hd
            obtain ⟨j, hj⟩ := List.mem_iff_getElem?.1 hd
            rw [List.getElem?_take] at hj
            split at hj
            · rename_i hjl
              rw [List.getElem?_drop] at hj
              have := r5 j hjl d hj
              intro hin
              have := ha d (by simpa using hin)
              omega
            · cases hj
          rw [hz, Bool.false_or]
        simp only [hany]
        simp [B.strings_IndexAny_l1, go_sem, g1, g45, WO.run, hq, hp, hR]
        refine hcall.use fun s1 hs1 => ?_
        have f2 := f1.trans (hs1.fr [q]) (by simp)
        simp [go_sem]
        refine (ih (p + R.2) _ s1 (by omega) r4 f2 (hs1.get f1.wf hq1) ?_ ?_).mono fun x e' s' h => h
        · simp [go_sem]
        · simp [go_sem]
    · rw [run_loop, List.drop_of_length_le (by omega)]
      simp [B.strings_IndexAny_l1, go_sem, g1, g45, WO.run, hq, hp, hf, anyOf]

theorem indexAny_res (H : B.H_strings_IndexAny T) (hwf : st.Wf) {s chars : List UInt8} (ha : ascii chars) (h2 : 2 ≤ chars.length) (hcl : chars.length < 1000000000) (hlen : s.length < 9223372036854775807) :
    CRes (call T (.fn 141 [] []) [.str s, .str chars] st) fun v s' => Ext st s' ∧ ∃ i : Int, v = .int .i64 i ∧ (0 ≤ i ↔ anyOf chars s = true) := by
  refine call_res H.e H.f rfl ?_
  have hne : seq8 chars [] = false := by cases chars with | nil => simp at h2 | cons => rfl
  have h1 : ¬ (chars.length : Int) = 1 := by omega
  have h1' : ¬ chars.length = 1 := by omega
  have h88 : ∀ st : St, st.Wf → Tells T st (.fn 144 [] []) [.int .i64 s.length] (.bool (decide (8 < (s.length : Int)))) := fun st hw => by
    refine tells_of H.strings_shouldUseASCIISet.e H.strings_shouldUseASCIISet.f rfl ?_
    simp [B.strings_shouldUseASCIISet, go_sem, Ext.refl hw]
  have h0 : List.replicate 256 (AV.bool false) = setC [] := setC_nil
  simp only [B.strings_IndexAny, h0]
  simp [go_sem, hne, h1, h1']
  refine (h88 st hwf).use fun s1 hs1 => ?_
  by_cases h8 : 8 < (s.length : Int)
  · simp [go_sem, h8]
    refine (makeSet_tells H.strings_makeASCIISet hs1.wf ha hcl).use fun s2 hs2 => ?_
    have x2 := hs1.trans hs2
    have hxn := Ext.new x2.wf (.cells 197 false (setC chars))
    have hw := wr_all (h := (s2.nx, .cells 197 false (setC [])) :: s2.h) (n := s2.nx) (ty := 197) (l := false) (cs := setC []) (vs := setC chars) (by simp [hget_cons]) (by rw [setC_len, setC_len]) (setC_sc _)
    rw [hset_cons, if_pos rfl] at hw
    simp [go_sem, NO.run, WO.run, setC_len, hw]
    refine (long_loop H.strings_asciiSet_contains (chars := chars) hlen ⟨(s2.nx, .cells 197 false (setC chars)) :: s2.h, s2.nx + 1⟩ (q := s2.nx) (b := false) (by simp [hget_cons]) hxn.wf s.length 0 _ _ (by simp) (.refl hxn.wf) ?_ ?_ ?_).mono ?_
    · simp [go_sem]
    · simp [go_sem]
    · simp [go_sem]
    · have x3 := x2.trans hxn
      rintro x e s' ⟨hx, ⟨rfl, h⟩ | ⟨rfl, h, j, g⟩⟩
      · rw [List.drop_zero] at h
        simp [go_sem]
        exact ⟨(x3.trans hx).dropLoc, by simp [h]⟩
      · rw [List.drop_zero] at h
        simp [go_sem, g]
        exact ⟨(x3.trans hx).dropLoc, by simp [h]⟩
  · have hxn := Ext.new hs1.wf (.iter s 0)
    simp [go_sem, h8, NO.run]
    refine (short_loop H.strings_IndexRune ha hcl hlen ⟨(s1.nx, .iter s 0) :: s1.h, s1.nx + 1⟩ (q := s1.nx) s.length 0 _ _ (by omega) (by omega) (.refl hxn.wf _) (by simp [hget_cons]) ?_ ?_).mono ?_
    · simp [go_sem]
    · simp [go_sem]
    · have x3 := hs1.trans hxn
      rintro x e s' ⟨hf, ⟨rfl, h⟩ | ⟨rfl, h, j, g⟩⟩
      · rw [List.drop_zero] at h
        simp [go_sem]
        exact ⟨(x3.frm hf (by intro n hn; have := hs1.nx; simp at hn; omega)).dropLoc, by simp [h]⟩
      · rw [List.drop_zero] at h
        simp [go_sem, g]
        exact ⟨(x3.frm hf (by intro n hn; have := hs1.nx; simp at hn; omega)).dropLoc, by simp [h]⟩

theorem containsAny_tells (H : B.H_strings_ContainsAny T) (hwf : st.Wf) {s chars : List UInt8} (ha : ascii chars) (h2 : 2 ≤ chars.length) (hcl : chars.length < 1000000000) (hlen : s.length < 9223372036854775807) :
    Tells T st (.fn 98 [] []) [.str s, .str chars] (.bool (anyOf chars s)) := by
  refine tells_of H.e H.f rfl ?_
  simp [B.strings_ContainsAny, go_sem]
  refine (indexAny_res H.strings_IndexAny hwf ha h2 hcl hlen).mono ?_
  rintro v s1 ⟨hx, i, rfl, hi⟩
  simp [go_sem, hx]
  rw [Bool.eq_iff_iff]
  simpa using hi

end Go.Ev

/- lex.Number told. -/
namespace Go.Ev
open Go
set_option linter.unusedSimpArgs false
set_option linter.unusedSectionVars false
set_option linter.unusedVariables false

variable {T : Tab} {st : St}

def isDig (c : UInt8) : Bool := decide (48 ≤ c.toNat) && decide (c.toNat ≤ 57)
def isExp (c : UInt8) : Bool := decide (c = 101) || decide (c = 69)

/-- A text without all but one of the digits of each run of mantissa digits. -/
def shorten : Bool → Bool → List UInt8 → List UInt8
  | _, _, [] => []
  | pd, mant, c :: r => if (mant && !isExp c) = true ∧ isDig c = true ∧ pd = true then shorten true (mant && !isExp c) r else c :: shorten (isDig c) (mant && !isExp c) r

theorem pattern_loop {s : List UInt8} (hs : s.length < 4000000000000000000) (st0 : St) (hwf : st0.Wf) : ∀ (m i : Nat) (acc : List UInt8) (pd mant : Bool) (e : Env), i + m = s.length → (i = 0 → pd = false) → (∀ c, 0 < i → s[i - 1]? = some c → isDig c = pd) → acc.length ≤ 41 →
    eget e 0 = .str s → eget e 3 = .str acc → eget e 4 = .bool mant → eget e 10 = .int .i64 s.length → eget e 11 = .int .i64 i →
    Res (run T (.loop B.lex_pattern_l0) e st0) fun x e' s' => s' = st0 ∧ ((x = .exit 0 ∧ eget e' 3 = .str (acc ++ shorten pd mant (s.drop i)) ∧ (acc ++ shorten pd mant (s.drop i)).length ≤ 41) ∨ (x = .ret ∧ eget e' 2 = .bool false ∧ 41 < (acc ++ shorten pd mant (s.drop i)).length)) := by
  intro m
  induction m with
  | zero =>
    intro i acc pd mant e hi hp0 hp hacc g0 g3 g4 g10 g11
    have hil : i = s.length := by omega
    subst hil
    rw [run_loop]
    simp [B.lex_pattern_l0, go_sem, g0, g3, g4, g10, g11, shorten]
    omega
  | succ m ih =>
    intro i acc pd mant e hi hp0 hp hacc g0 g3 g4 g10 g11
    have hil : i < s.length := by omega
    have hil' : (i : Int) < s.length := by omega
    obtain ⟨c, hc, hd⟩ := idx_some hil
    have e1 : IntKind.i64.wrap ((i : Int) + 1) = ((i + 1 : Nat) : Int) := wrap64' (by omega) (by omega)
    have hp' : ∀ d, 0 < i + 1 → s[i + 1 - 1]? = some d → isDig d = isDig c := fun d _ h => by rw [Nat.add_sub_cancel, hc] at h; cases h; rfl
    -- is it a letter of an exponent?
    obtain ⟨m2, hm2⟩ : ∃ m2, m2 = (mant && !isExp c) := ⟨_, rfl⟩
    have hsh : shorten pd mant (s.drop i) = if m2 = true ∧ isDig c = true ∧ pd = true then shorten true m2 (s.drop (i + 1)) else c :: shorten (isDig c) m2 (s.drop (i + 1)) := by
      rw [hd, shorten, hm2]
    have hsub := asubS_some (s := s) (i := i) (j := (i : Int) + 1) (k := .i64) (k' := .i64) (by omega) (by omega) (by omega)
    have hone : (s.drop i).take 1 = [c] := by rw [hd]; rfl
    have ht : ((i : Int) + 1).toNat - ((i : Int)).toNat = 1 := by omega
    rw [ht, Int.toNat_natCast, hone] at hsub
    have e2 : IntKind.i64.wrap ((i : Int) + 1) = (i : Int) + 1 := wrap64' (by omega) (by omega)
    have hx1 : ((c.toNat : Int) = 101) ↔ c = 101 := ⟨fun h => UInt8.toNat_inj.1 (by have : (101 : UInt8).toNat = 101 := rfl; omega), fun h => by subst h; rfl⟩
    have hx2 : ((c.toNat : Int) = 69) ↔ c = 69 := ⟨fun h => UInt8.toNat_inj.1 (by have : (69 : UInt8).toNat = 69 := rfl; omega), fun h => by subst h; rfl⟩
    have d1 : ((48 : Int) ≤ c.toNat) ↔ 48 ≤ c.toNat := by omega
    have d2 : ((c.toNat : Int) ≤ 57) ↔ c.toNat ≤ 57 := by omega
    have n101 : (101 : UInt8).toNat = 101 := rfl
    have n69 : (69 : UInt8).toNat = 69 := rfl
    have hlen : acc.length + 1 < 4611686018427387904 := by omega
    have full : shorten pd mant (s.drop i) = c :: shorten (isDig c) m2 (s.drop (i + 1)) → 40 < acc.length → 41 < (acc ++ shorten pd mant (s.drop i)).length := fun h1 h2 => by rw [h1]; simp; omega
    have next : shorten pd mant (s.drop i) = c :: shorten (isDig c) m2 (s.drop (i + 1)) → ¬ 40 < acc.length → ∀ (e' : Env), eget e' 0 = .str s → eget e' 3 = .str (acc ++ [c]) → eget e' 4 = .bool m2 → eget e' 10 = .int .i64 s.length → eget e' 11 = .int .i64 ((i : Int) + 1) →
        Res (run T (.loop B.lex_pattern_l0) e' st0) fun x e' s' => s' = st0 ∧ ((x = .exit 0 ∧ eget e' 3 = .str (acc ++ shorten pd mant (s.drop i)) ∧ (acc ++ shorten pd mant (s.drop i)).length ≤ 41) ∨ (x = .ret ∧ eget e' 2 = .bool false ∧ 41 < (acc ++ shorten pd mant (s.drop i)).length)) := by
      intro h1 h2 e' a0 a3 a4 a10 a11
      have := ih (i + 1) (acc ++ [c]) (isDig c) m2 e' (by omega) (by omega) hp' (by simp; omega) a0 a3 a4 a10 (by rw [a11]; rfl)
      rw [List.append_assoc, List.singleton_append, ← h1] at this
      exact this
    have skip : shorten pd mant (s.drop i) = shorten (isDig c) m2 (s.drop (i + 1)) → ∀ (e' : Env), eget e' 0 = .str s → eget e' 3 = .str acc → eget e' 4 = .bool m2 → eget e' 10 = .int .i64 s.length → eget e' 11 = .int .i64 ((i : Int) + 1) →
        Res (run T (.loop B.lex_pattern_l0) e' st0) fun x e' s' => s' = st0 ∧ ((x = .exit 0 ∧ eget e' 3 = .str (acc ++ shorten pd mant (s.drop i)) ∧ (acc ++ shorten pd mant (s.drop i)).length ≤ 41) ∨ (x = .ret ∧ eget e' 2 = .bool false ∧ 41 < (acc ++ shorten pd mant (s.drop i)).length)) := by
      intro h1 e' a0 a3 a4 a10 a11
      have := ih (i + 1) acc (isDig c) m2 e' (by omega) (by omega) hp' hacc a0 a3 a4 a10 (by rw [a11]; rfl)
      rw [← h1] at this
      exact this
    clear ih hp'
    generalize hTG : acc ++ shorten pd mant (s.drop i) = TG at full next skip ⊢
    rw [run_loop]
    by_cases hE : isExp c = true
    · -- an exponent's letter
      have hm2f : m2 = false := by rw [hm2, hE]; simp
      subst hm2f
      simp only [Bool.false_eq_true, false_and, if_false] at hsh
      have hcE : c = 101 ∨ c = 69 := by simpa [isExp] using hE
      have hcv : (c.toNat : Int) = 101 ∨ (¬ (c.toNat : Int) = 101 ∧ (c.toNat : Int) = 69) := by rcases hcE with rfl | rfl <;> omega
      by_cases hf : 40 < acc.length
      · have hf' : (40 : Int) < acc.length := by omega
        have hfin := full hsh hf
        rcases hcv with h101 | ⟨h101, h69⟩
        · simp [B.lex_pattern_l0, go_sem, g0, g3, g4, g10, g11, hil', hc, h101, hf', hfin]
        · simp [B.lex_pattern_l0, go_sem, g0, g3, g4, g10, g11, hil', hc, h101, h69, hf', hfin]
      · have hf' : ¬ (40 : Int) < acc.length := by omega
        rcases hcv with h101 | ⟨h101, h69⟩
        · simp [B.lex_pattern_l0, go_sem, g0, g3, g4, g10, g11, hil', hc, h101, hf', e2, hsub, hlen]
          refine next hsh hf _ ?_ ?_ ?_ ?_ ?_ <;> simp [go_sem]
        · simp [B.lex_pattern_l0, go_sem, g0, g3, g4, g10, g11, hil', hc, h101, h69, hf', e2, hsub, hlen]
          refine next hsh hf _ ?_ ?_ ?_ ?_ ?_ <;> simp [go_sem]
    · have hEf : isExp c = false := by simpa using hE
      have hm2f : m2 = mant := by rw [hm2, hEf]; simp
      subst hm2f
      have hcn : ¬ c = 101 ∧ ¬ c = 69 := by simpa [isExp] using hE
      have h101 : ¬ (c.toNat : Int) = 101 := fun h => hcn.1 (hx1.1 h)
      have h69 : ¬ (c.toNat : Int) = 69 := fun h => hcn.2 (hx2.1 h)
      by_cases hdg : isDig c = true
      · have hdg' : 48 ≤ c.toNat ∧ c.toNat ≤ 57 := by simpa [isDig] using hdg
        have h48 : (48 : Int) ≤ c.toNat := by omega
        have h57 : (c.toNat : Int) ≤ 57 := by omega
        cases hmm : m2 with
        | false =>
          rw [hmm] at hsh g4
          simp only [Bool.false_eq_true, false_and, if_false] at hsh
          rw [hmm] at full next skip
          by_cases hf : 40 < acc.length
          · have hf' : (40 : Int) < acc.length := by omega
            have hfin := full hsh hf
            simp [B.lex_pattern_l0, go_sem, g0, g3, g4, g10, g11, hil', hc, h101, h69, h48, h57, hf', hfin]
          · have hf' : ¬ (40 : Int) < acc.length := by omega
            simp [B.lex_pattern_l0, go_sem, g0, g3, g4, g10, g11, hil', hc, h101, h69, h48, h57, hf', e2, hsub, hlen]
            refine next hsh hf _ ?_ ?_ ?_ ?_ ?_ <;> simp [go_sem]
        | true =>
          rw [hmm] at hsh g4
          rw [hmm] at full next skip
          simp only [hdg, true_and] at hsh
          by_cases hi0 : 0 < i
          · have hi0' : (0 : Int) < i := by omega
            have hi1 : (1 : Int) ≤ i := by omega
            obtain ⟨d, hd', _⟩ := idx_some (s := s) (i := i - 1) (by omega)
            have hpd := hp d hi0 hd'
            have e3 : IntKind.i64.wrap ((i : Int) - 1) = (i : Int) - 1 := wrap64' (by omega) (by omega)
            have t3 : ((i : Int) - 1).toNat = i - 1 := by omega
            cases hpv : pd with
            | true =>
              rw [hpv] at hpd hsh
              simp only [if_true] at hsh
              rw [hpv] at full next skip
              have hdd : 48 ≤ d.toNat ∧ d.toNat ≤ 57 := by simpa [isDig] using hpd
              have hd48 : (48 : Int) ≤ d.toNat := by omega
              have hd57 : (d.toNat : Int) ≤ 57 := by omega
              rw [hdg] at skip
              simp [B.lex_pattern_l0, go_sem, g0, g3, g4, g10, g11, hil', hc, h101, h69, h48, h57, hi0, hi0', hi1, e3, t3, hd', hd48, hd57, e2]
              refine skip hsh _ ?_ ?_ ?_ ?_ ?_ <;> simp [go_sem]
            | false =>
              rw [hpv] at hpd hsh
              simp only [Bool.false_eq_true, if_false] at hsh
              rw [hpv] at full next skip
              have hdd : ¬ (48 ≤ d.toNat ∧ d.toNat ≤ 57) := by
                intro h
                have : isDig d = true := by simp [isDig, h.1, h.2]
                rw [hpd] at this
                cases this
              rw [hdg] at full next
              by_cases hf : 40 < acc.length
              · have hf' : (40 : Int) < acc.length := by omega
                have hfin := full hsh hf
                by_cases hd48 : (48 : Int) ≤ d.toNat
                · have hd57 : ¬ (d.toNat : Int) ≤ 57 := by omega
                  simp [B.lex_pattern_l0, go_sem, g0, g3, g4, g10, g11, hil', hc, h101, h69, h48, h57, hi0, hi0', hi1, e3, t3, hd', hd48, hd57, hf', hfin]
                · simp [B.lex_pattern_l0, go_sem, g0, g3, g4, g10, g11, hil', hc, h101, h69, h48, h57, hi0, hi0', hi1, e3, t3, hd', hd48, hf', hfin]
              · have hf' : ¬ (40 : Int) < acc.length := by omega
                by_cases hd48 : (48 : Int) ≤ d.toNat
                · have hd57 : ¬ (d.toNat : Int) ≤ 57 := by omega
                  simp [B.lex_pattern_l0, go_sem, g0, g3, g4, g10, g11, hil', hc, h101, h69, h48, h57, hi0, hi0', hi1, e3, t3, hd', hd48, hd57, hf', e2, hsub, hlen]
                  refine next hsh hf _ ?_ ?_ ?_ ?_ ?_ <;> simp [go_sem]
                · simp [B.lex_pattern_l0, go_sem, g0, g3, g4, g10, g11, hil', hc, h101, h69, h48, h57, hi0, hi0', hi1, e3, t3, hd', hd48, hf', e2, hsub, hlen]
                  refine next hsh hf _ ?_ ?_ ?_ ?_ ?_ <;> simp [go_sem]
          · have hi0' : ¬ (0 : Int) < i := by omega
            have hpv := hp0 (by omega)
            rw [hpv] at hsh full next
            simp only [Bool.false_eq_true, if_false] at hsh
            rw [hdg] at full next
            by_cases hf : 40 < acc.length
            · have hf' : (40 : Int) < acc.length := by omega
              have hfin := full hsh hf
              simp [B.lex_pattern_l0, go_sem, g0, g3, g4, g10, g11, hil', hc, h101, h69, h48, h57, hi0, hi0', hf', hfin]
            · have hf' : ¬ (40 : Int) < acc.length := by omega
              simp [B.lex_pattern_l0, go_sem, g0, g3, g4, g10, g11, hil', hc, h101, h69, h48, h57, hi0, hi0', hf', e2, hsub, hlen]
              refine next hsh hf _ ?_ ?_ ?_ ?_ ?_ <;> simp [go_sem]
      · have hdgf : isDig c = false := by simpa using hdg
        rw [hdgf] at hsh full next
        simp only [Bool.false_eq_true, false_and, and_false, if_false] at hsh
        have hdd : ¬ (48 ≤ c.toNat ∧ c.toNat ≤ 57) := by
          intro h
          have : isDig c = true := by simp [isDig, h.1, h.2]
          rw [hdgf] at this
          cases this
        by_cases hf : 40 < acc.length
        · have hf' : (40 : Int) < acc.length := by omega
          have hfin := full hsh hf
          by_cases h48 : (48 : Int) ≤ c.toNat
          · have h57 : ¬ (c.toNat : Int) ≤ 57 := by omega
            cases m2 <;> simp [B.lex_pattern_l0, go_sem, g0, g3, g4, g10, g11, hil', hc, h101, h69, h48, h57, hf', hfin]
          · cases m2 <;> simp [B.lex_pattern_l0, go_sem, g0, g3, g4, g10, g11, hil', hc, h101, h69, h48, hf', hfin]
        · have hf' : ¬ (40 : Int) < acc.length := by omega
          by_cases h48 : (48 : Int) ≤ c.toNat
          · have h57 : ¬ (c.toNat : Int) ≤ 57 := by omega
            cases m2 <;> simp [B.lex_pattern_l0, go_sem, g0, g3, g4, g10, g11, hil', hc, h101, h69, h48, h57, hf', e2, hsub, hlen] <;> (refine next hsh hf _ ?_ ?_ ?_ ?_ ?_ <;> simp [go_sem])
          · cases m2 <;> simp [B.lex_pattern_l0, go_sem, g0, g3, g4, g10, g11, hil', hc, h101, h69, h48, hf', e2, hsub, hlen] <;> (refine next hsh hf _ ?_ ?_ ?_ ?_ ?_ <;> simp [go_sem])

def patS (s : List UInt8) : Bool := !decide (41 < (shorten false true s).length) && (decide ((parseS (shorten false true s)).2 = 0) || decide ((parseS (shorten false true s)).2 = 6))

theorem pattern_tells (H : B.H_lex_pattern T) (hwf : st.Wf) {s : List UInt8} (hs : s.length < 4000000000000000000) : Tells T st (.fn 99 [] []) [.str s] (.bool (patS s)) := by
  refine tells_of H.e H.f rfl ?_
  simp [B.lex_pattern, go_sem]
  refine (pattern_loop hs st hwf s.length 0 [] false true _ (by simp) (fun _ => rfl) (fun _ h => by omega) (by simp) ?_ ?_ ?_ ?_ ?_).mono ?_
  · simp [go_sem]
  · simp [go_sem]
  · simp [go_sem]
  · simp [go_sem]
  · simp [go_sem]
  · simp only [List.drop_zero, List.nil_append]
    rintro x e s' ⟨rfl, ⟨rfl, h1, h2⟩ | ⟨rfl, h1, h2⟩⟩
    · simp [go_sem, h1]
      refine (parse_tells H.real_Parse hwf).use fun s1 hs1 => ?_
      have h2' : ¬ 41 < (shorten false true s).length := by omega
      by_cases he : (parseS (shorten false true s)).2 = 0
      · simp [go_sem, patS, h2, h2', he, hs1]
      · simp [go_sem, patS, h2, h2', he, hs1]
    · simp [go_sem, h1, patS, h2, Ext.refl hwf]

end Go.Ev

/- lex.Number, lex.Word told. -/
namespace Go.Ev
open Go
set_option linter.unusedSimpArgs false
set_option linter.unusedSectionVars false
set_option linter.unusedVariables false

variable {T : Tab} {st : St}

abbrev Tk := Int × Int × Int
def toA (t : Tk) : AV := tokA t.1 t.2.1 [] t.2.2
def ansT (n : Int) (len : Nat) : Tk := if 40 < len ∨ n < -2147483648 ∨ 2147483647 < n then (0, 0, 26) else (1, n, 0)
theorem ansS_eq (n : Int) (len : Nat) : ansS n len = toA (ansT n len) := by unfold ansS ansT; split <;> rfl
def wholeT (s : List UInt8) : Tk := if (cntS 10 (unsign s).1).2 = true then ansT ((unsign s).2 * (cntS 10 (unsign s).1).1) s.length else (0, 0, 5)
theorem wholeS_eq (s : List UInt8) : wholeS s = toA (wholeT s) := by
  unfold wholeS wholeT
  split
  · exact ansS_eq _ _
  · rfl
def radixT (s : List UInt8) : Tk :=
  if (cutS 35 s).2.2 = false ∨ (cntS 10 (cutS 35 s).1).2 = false ∨ 2 < (cutS 35 s).1.length ∨ (cntS 10 (cutS 35 s).1).1 < 2 ∨ 36 < (cntS 10 (cutS 35 s).1).1 then (0, 0, 5)
  else if (cntS (cntS 10 (cutS 35 s).1).1 (cutS 35 s).2.1).2 = true then ansT (cntS (cntS 10 (cutS 35 s).1).1 (cutS 35 s).2.1).1 s.length
  else (0, 0, 5)
theorem radixS_eq (s : List UInt8) : radixS s = toA (radixT s) := by
  unfold radixS radixT
  split
  · rfl
  · split
    · exact ansS_eq _ _
    · rfl
def decT (s : List UInt8) : Tk := if anyOf [46, 101, 69] s = false ∨ patS s = false then (0, 0, 5) else if (parseS s).2 = 0 then (2, (parseS s).1, 0) else (0, 0, 26)

theorem decimalN_tells (H : B.H_lex_numeral_decimal T) (hwf : st.Wf) {s : List UInt8} (hs : s.length < 4000000000000000000) : Tells T st (.fn 77 [] []) [.str s] (toA (decT s)) := by
  refine tells_of H.e H.f rfl ?_
  have hx := Ext.new hwf (.cells 134 true [.int .i64 0, .int .i64 0, .str []])
  have hg : hget ((st.nx, AObj.cells 134 true [.int .i64 0, .int .i64 0, .str []]) :: st.h) st.nx = some (.cells 134 true [.int .i64 0, .int .i64 0, .str []]) := by simp [hget_cons]
  have hasc : ascii [46, 101, 69] := by intro c hc; simp at hc; rcases hc with rfl | rfl | rfl <;> decide
  simp [B.lex_numeral_decimal, go_sem, NO.run]
  refine (containsAny_tells H.strings_ContainsAny hx.wf hasc (by simp) (by simp) (by omega)).use fun s1 hs1 => ?_
  have e1 := hx.trans hs1
  have g1 := hs1.get hx.wf hg
  cases ha : anyOf [46, 101, 69] s with
  | false =>
    simp [go_sem, tok_wr g1, WO.run, fresults, resVals, resVal, RO.run, tok_rd (hget_hset_self g1), toA, decT, ha, tokA, tokC]
    exact e1.setNew g1 (Nat.le_refl _)
  | true =>
    simp [go_sem]
    refine (pattern_tells H.lex_pattern e1.wf hs).use fun s2 hs2 => ?_
    have e2 := e1.trans hs2
    have g2 := hs2.get e1.wf g1
    cases hp : patS s with
    | false =>
      simp [go_sem, tok_wr g2, WO.run, fresults, resVals, resVal, RO.run, tok_rd (hget_hset_self g2), toA, decT, ha, hp, tokA, tokC]
      exact e2.setNew g2 (Nat.le_refl _)
    | true =>
      simp [go_sem]
      refine (parse_tells H.real_Parse e2.wf).use fun s3 hs3 => ?_
      have e3 := e2.trans hs3
      have g3 := hs3.get e2.wf g2
      by_cases he : (parseS s).2 = 0
      · simp [go_sem, he, tok_wr g3, WO.run, fresults, resVals, resVal, RO.run, tok_rd (hget_hset_self g3), toA, decT, ha, hp, tokA, tokC]
        exact e3.setNew g3 (Nat.le_refl _)
      · simp [go_sem, he, tok_wr g3, WO.run, fresults, resVals, resVal, RO.run, tok_rd (hget_hset_self g3), toA, decT, ha, hp, tokA, tokC]
        exact e3.setNew g3 (Nat.le_refl _)

def numT (s : List UInt8) : Tk := if (wholeT s).2.2 ≠ 5 then wholeT s else if (radixT s).2.2 ≠ 5 then radixT s else decT s

theorem number_tells (H : B.H_lex_Number T) (hwf : st.Wf) {s : List UInt8} (hs : s.length < 4000000000000000000) : Tells T st (.fn 63 [] []) [.str s] (toA (numT s)) := by
  refine tells_of H.e H.f rfl ?_
  have hx := Ext.new hwf (.cells 134 true [.int .i64 0, .int .i64 0, .str []])
  have hg : hget ((st.nx, AObj.cells 134 true [.int .i64 0, .int .i64 0, .str []]) :: st.h) st.nx = some (.cells 134 true [.int .i64 0, .int .i64 0, .str []]) := by simp [hget_cons]
  have t1 := fun st (h : St.Wf st) => whole_tells (st := st) H.lex_numeral_whole h (s := s) (by omega)
  have t2 := fun st (h : St.Wf st) => radix_tells (st := st) H.lex_numeral_radix h (s := s) (by omega)
  have t3 := fun st (h : St.Wf st) => decimalN_tells (st := st) H.lex_numeral_decimal h (s := s) hs
  simp only [wholeS_eq, radixS_eq] at t1 t2
  obtain ⟨w, hw⟩ : ∃ w, w = wholeT s := ⟨_, rfl⟩
  obtain ⟨r, hr⟩ : ∃ r, r = radixT s := ⟨_, rfl⟩
  obtain ⟨d, hd⟩ : ∃ d, d = decT s := ⟨_, rfl⟩
  have hn : numT s = (if w.2.2 ≠ 5 then w else if r.2.2 ≠ 5 then r else d) := by rw [hw, hr, hd, numT]
  rw [← hw] at t1; rw [← hr] at t2; rw [← hd] at t3
  rw [hn]
  clear hn hw hr hd
  have w1 : IntKind.i64.wrap 1 = 1 := wrap64' (by omega) (by omega)
  have w2 : IntKind.i64.wrap 2 = 2 := wrap64' (by omega) (by omega)
  have w3 : IntKind.i64.wrap 3 = 3 := wrap64' (by omega) (by omega)
  simp [B.lex_Number, go_sem, NO.run]
  rw [run_loop]
  simp [B.lex_Number_l0, go_sem]
  refine (t1 _ hx.wf).use fun s1 hs1 => ?_
  have e1 := hx.trans hs1
  have g1 := hs1.get hx.wf hg
  have hw1 := tok_wr g1 (k' := w.1) (n' := w.2.1) (t' := [])
  have f1 := e1.setNew g1 (o := .cells 134 true [.int .i64 w.1, .int .i64 w.2.1, .str []]) (Nat.le_refl _)
  have g1' := hget_hset_self g1 (o := .cells 134 true [.int .i64 w.1, .int .i64 w.2.1, .str []])
  by_cases hw5 : w.2.2 = 5
  · simp [go_sem, toA, tokA, tokC, WO.run, hw1, hw5, w1]
    rw [run_loop]
    simp [B.lex_Number_l0, go_sem]
    refine (t2 _ f1.wf).use fun s2 hs2 => ?_
    have e2 := f1.trans hs2
    have g2 := hs2.get f1.wf g1'
    have hw2 := tok_wr g2 (k' := r.1) (n' := r.2.1) (t' := [])
    have f2 := e2.setNew g2 (o := .cells 134 true [.int .i64 r.1, .int .i64 r.2.1, .str []]) (Nat.le_refl _)
    have g2' := hget_hset_self g2 (o := .cells 134 true [.int .i64 r.1, .int .i64 r.2.1, .str []])
    by_cases hr5 : r.2.2 = 5
    · simp [go_sem, toA, tokA, tokC, WO.run, hw2, hr5, w2]
      rw [run_loop]
      simp [B.lex_Number_l0, go_sem]
      refine (t3 _ f2.wf).use fun s3 hs3 => ?_
      have e3 := f2.trans hs3
      have g3 := hs3.get f2.wf g2'
      have hw3 := tok_wr g3 (k' := d.1) (n' := d.2.1) (t' := [])
      have f3 := e3.setNew g3 (o := .cells 134 true [.int .i64 d.1, .int .i64 d.2.1, .str []]) (Nat.le_refl _)
      have g3' := hget_hset_self g3 (o := .cells 134 true [.int .i64 d.1, .int .i64 d.2.1, .str []])
      have f4 := f3.setNew g3' (o := .cells 134 true [.int .i64 d.1, .int .i64 d.2.1, .str []]) (Nat.le_refl _)
      have g4 := hget_hset_self g3' (o := .cells 134 true [.int .i64 d.1, .int .i64 d.2.1, .str []])
      by_cases hd5 : d.2.2 = 5
      · simp [go_sem, toA, tokA, tokC, WO.run, RO.run, hw3, hd5, w3, tok_rd g3']
        rw [run_loop]
        simp [B.lex_Number_l0, go_sem, WO.run, RO.run, tok_rd g3', tok_wr g3', tok_rd g4, fresults, resVals, resVal, hd5]
        exact f4
      · simp [go_sem, toA, tokA, tokC, WO.run, RO.run, hw3, hd5, w3, tok_rd g3', tok_wr g3', tok_rd g4, fresults, resVals, resVal]
        exact f4
    · have f4 := f2.setNew g2' (o := .cells 134 true [.int .i64 r.1, .int .i64 r.2.1, .str []]) (Nat.le_refl _)
      have g4 := hget_hset_self g2' (o := .cells 134 true [.int .i64 r.1, .int .i64 r.2.1, .str []])
      simp [go_sem, toA, tokA, tokC, WO.run, RO.run, hw2, hr5, tok_rd g2', tok_wr g2', tok_rd g4, fresults, resVals, resVal]
      exact f4
  · have f4 := f1.setNew g1' (o := .cells 134 true [.int .i64 w.1, .int .i64 w.2.1, .str []]) (Nat.le_refl _)
    have g4 := hget_hset_self g1' (o := .cells 134 true [.int .i64 w.1, .int .i64 w.2.1, .str []])
    simp [go_sem, toA, tokA, tokC, WO.run, RO.run, hw1, hw5, tok_rd g1', tok_wr g1', tok_rd g4, fresults, resVals, resVal]
    exact f4

end Go.Ev

/- The reference's count; Word. -/
namespace Go.Ev
open Go
set_option linter.unusedSimpArgs false
set_option linter.unusedSectionVars false
set_option linter.unusedVariables false

variable {T : Tab} {st : St}

def cntR (base : Int) (s : List UInt8) : Int := if s = [] then -1 else match cntFrom 8589934592 base 0 s with | some n => n | none => -1

theorem digR_lt {c : UInt8} {base : Int} (h : base ≤ 36) : (base ≤ (digR c : Int) ↔ base ≤ (digV c : Int)) ∧ (¬ base ≤ (digV c : Int) → digR c = digV c) := by
  unfold digR
  split
  · rename_i e; rw [e]; refine ⟨by omega, fun h => by omega⟩
  · exact ⟨Iff.rfl, fun _ => rfl⟩

theorem refcount_loop (H : B.H_chaseref03_digit T) {s : List UInt8} (hs : s.length < 9223372036854775807) {base : Int} (h0 : 0 ≤ base) (h1 : base ≤ 36) (st0 : St) : ∀ (m i n : Nat) (e : Env) (st1 : St), i + m = s.length → n ≤ 8589934592 → Ext st0 st1 → eget e 0 = .str s → eget e 1 = .int .i64 base → eget e 5 = .int .i64 n → eget e 6 = .int .i64 i →
    Res (run T (.loop B.chaseref03_count_l0) e st1) fun x e' s' => Ext st0 s' ∧ ((x = .exit 0 ∧ ∃ v : Nat, cntFrom 8589934592 base n (s.drop i) = some v ∧ eget e' 5 = .int .i64 v) ∨ (x = .ret ∧ cntFrom 8589934592 base n (s.drop i) = none ∧ eget e' 4 = .int .i64 (-1))) := by
  intro m
  induction m with
  | zero =>
    intro i n e st1 hi hn hx g0 g1 g5 g6
    have hil : i = s.length := by omega
    subst hil
    rw [run_loop]
    simp [B.chaseref03_count_l0, go_sem, g0, g1, g5, g6, hx, cntFrom]
  | succ m ih =>
    intro i n e st1 hi hn hx g0 g1 g5 g6
    have hil : i < s.length := by omega
    have hil' : (i : Int) < s.length := by omega
    obtain ⟨c, hc, hd⟩ := idx_some hil
    obtain ⟨k1, k2⟩ := digR_lt (c := c) h1
    have hcf : cntFrom 8589934592 base n (s.drop i) = if (digV c : Int) ≥ base then none else cntFrom 8589934592 base (min (n * base.toNat + digV c) 8589934592) (s.drop (i + 1)) := by rw [hd]; rfl
    rw [hcf]
    rw [run_loop]
    simp [B.chaseref03_count_l0, go_sem, g0, g1, g5, g6, hil', hc]
    refine (refDigit_tells H hx.wf c).use fun s1 hs1 => ?_
    have hx1 := hx.trans hs1
    by_cases hb : base ≤ (digV c : Int)
    · have hb' := k1.2 hb
      simp [go_sem, hb, hb', hx1]
      intro h
      omega
    · have hb' : ¬ base ≤ (digR c : Int) := fun h => hb (k1.1 h)
      simp [go_sem, hb, hb', hc]
      refine (refDigit_tells H hx1.wf c).use fun s2 hs2 => ?_
      have hx2 := hx1.trans hs2
      have hle := digV_le c
      have hm : (n : Int) * base ≤ 8589934592 * 36 := Int.mul_le_mul (by omega) h1 h0 (by omega)
      have hm0 : 0 ≤ (n : Int) * base := Int.mul_nonneg (by omega) h0
      have e1 : IntKind.i64.wrap ((n : Int) * base) = n * base := wrap64' (by omega) (by omega)
      have e2 : IntKind.i64.wrap ((n : Int) * base + digV c) = n * base + digV c := wrap64' (by omega) (by omega)
      obtain ⟨v, hv⟩ : ∃ v, v = min (n * base.toNat + digV c) 8589934592 := ⟨_, rfl⟩
      have e3 : (if (8589934592 : Int) < n * base + digV c then 8589934592 else n * base + digV c) = (v : Int) := by
        have : ((n * base.toNat : Nat) : Int) = n * base := by rw [Int.natCast_mul, Int.toNat_of_nonneg h0]
        rw [hv]
        split <;> omega
      have e4 : IntKind.i64.wrap ((i : Int) + 1) = ((i + 1 : Nat) : Int) := wrap64' (by omega) (by omega)
      rw [← hv]
      simp [go_sem, k2 hb, e1, e2, e3]
      have hb2 : (digV c : Int) < base := by omega
      refine (ih (i + 1) v _ s2 (by omega) (by omega) hx2 ?_ ?_ ?_ ?_).mono fun x e' s' h => by simpa [hb2] using h
      · simp [go_sem]
      · simp [go_sem]
      · simp [go_sem]
      · simp [go_sem, e4]

theorem refcount_tells (H : B.H_chaseref03_count T) (hwf : st.Wf) {s : List UInt8} (hs : s.length < 9223372036854775807) {base : Int} (h0 : 0 ≤ base) (h1 : base ≤ 36) : Tells T st (.fn 78 [] []) [.str s, .int .i64 base] (.int .i64 (cntR base s)) := by
  refine tells_of H.e H.f rfl ?_
  by_cases hz : s = []
  · subst hz
    simp [B.chaseref03_count, go_sem, seq8, cntR, Ext.refl hwf]
  · have hq : seq8 s [] = false := by cases s with | nil => exact absurd rfl hz | cons => rfl
    simp [B.chaseref03_count, go_sem, hq]
    refine (refcount_loop H.chaseref03_digit hs h0 h1 st s.length 0 0 _ st (by simp) (by omega) (.refl hwf) ?_ ?_ ?_ ?_).mono ?_
    · simp [go_sem]
    · simp [go_sem]
    · simp [go_sem]
    · simp [go_sem]
    · simp only [List.drop_zero]
      rintro x e s' ⟨hx, ⟨rfl, v, h, g⟩ | ⟨rfl, h, g⟩⟩
      · simp [go_sem, g, cntR, hz, h, hx]
      · simp [go_sem, g, cntR, hz, h, hx]

def wordT (s : List UInt8) : Int × Int × List UInt8 × Int :=
  if s = [] ∨ regAll s = false then (0, 0, [], 5)
  else if (numT s).2.2 ≠ 5 then ((numT s).1, (numT s).2.1, [], (numT s).2.2)
  else if 100 < s.length then (0, 0, [], 26) else (3, 0, s, 0)
def toW (t : Int × Int × List UInt8 × Int) : AV := tokA t.1 t.2.1 t.2.2.1 t.2.2.2

theorem word_tells (H : B.H_lex_Word T) (hwf : st.Wf) {s : List UInt8} (hs : s.length < 4000000000000000000) : Tells T st (.fn 65 [] []) [.str s] (toW (wordT s)) := by
  refine tells_of H.e H.f rfl ?_
  have hx := Ext.new hwf (.cells 134 true [.int .i64 0, .int .i64 0, .str []])
  have hg : hget ((st.nx, AObj.cells 134 true [.int .i64 0, .int .i64 0, .str []]) :: st.h) st.nx = some (.cells 134 true [.int .i64 0, .int .i64 0, .str []]) := by simp [hget_cons]
  have bad : ∀ {s1 : St}, Ext st s1 → hget s1.h st.nx = some (.cells 134 true [.int .i64 0, .int .i64 0, .str []]) → ∀ k n t, Ext st ⟨hset s1.h st.nx (.cells 134 true [.int .i64 k, .int .i64 n, .str t]), s1.nx⟩ := fun e1 g1 k n t => e1.setNew g1 (Nat.le_refl _)
  by_cases hz : s = []
  · subst hz
    simp [B.lex_Word, go_sem, NO.run, seq8, tok_wr hg, WO.run, fresults, resVals, resVal, RO.run, tok_rd (hget_hset_self hg), toW, wordT, tokA, tokC]
    exact hx.setNew (st := st) hg (Nat.le_refl _)
  · have hq : seq8 s [] = false := by cases s with | nil => exact absurd rfl hz | cons => rfl
    simp [B.lex_Word, go_sem, NO.run, hq]
    refine (lexregular_tells H.lex_regular hx.wf (s := s) (by omega)).use fun s1 hs1 => ?_
    have e1 := hx.trans hs1
    have g1 := hs1.get hx.wf hg
    cases hr : regAll s with
    | false =>
      simp [go_sem, hr, tok_wr g1, WO.run, fresults, resVals, resVal, RO.run, tok_rd (hget_hset_self g1), toW, wordT, tokA, tokC]
      exact bad e1 g1 _ _ _
    | true =>
      simp [go_sem, hr]
      refine (number_tells H.lex_Number e1.wf hs).use fun s2 hs2 => ?_
      have e2 := e1.trans hs2
      have g2 := hs2.get e1.wf g1
      obtain ⟨t, ht⟩ : ∃ t, t = numT s := ⟨_, rfl⟩
      have hwd : wordT s = if t.2.2 ≠ 5 then (t.1, t.2.1, [], t.2.2) else if 100 < s.length then (0, 0, [], 26) else (3, 0, s, 0) := by simp [wordT, hz, hr, ht]
      rw [← ht, hwd]
      clear ht hwd
      have x3 := Ext.new e2.wf (.cells 134 true [.int .i64 0, .int .i64 0, .str []])
      have hnx : st.nx < s2.nx := by have := e2.wf.lt _ _ g2; exact this
      simp [go_sem, NO.run, WO.run, toA, tokA, tokC, wr_tok]
      have hgn : hget ((s2.nx, AObj.cells 134 true [.int .i64 t.1, .int .i64 t.2.1, .str []]) :: s2.h) st.nx = some (.cells 134 true [.int .i64 0, .int .i64 0, .str []]) := by
        rw [hget_cons, if_neg (by omega)]; exact g2
      have xn := e2.trans (Ext.new e2.wf (.cells 134 true [.int .i64 t.1, .int .i64 t.2.1, .str []]))
      by_cases h5 : t.2.2 = 5
      · by_cases hl : 100 < s.length
        · have hl' : (100 : Int) < s.length := by omega
          simp [go_sem, h5, hl, hl', tok_wr hgn, WO.run, fresults, resVals, resVal, RO.run, tok_rd (hget_hset_self hgn), toW, tokA, tokC]
          exact bad xn hgn _ _ _
        · have hl' : ¬ (100 : Int) < s.length := by omega
          simp [go_sem, h5, hl, hl', tok_wr hgn, WO.run, fresults, resVals, resVal, RO.run, tok_rd (hget_hset_self hgn), toW, tokA, tokC]
          exact bad xn hgn _ _ _
      · simp [go_sem, h5, rd_tok, tok_wr hgn, WO.run, fresults, resVals, resVal, RO.run, tok_rd (hget_hset_self hgn), toW, tokA, tokC]
        exact bad xn hgn _ _ _

end Go.Ev

/- strings.Builder; Quote. -/
namespace Go.Ev
open Go
set_option linter.unusedSimpArgs false
set_option linter.unusedSectionVars false
set_option linter.unusedVariables false

variable {T : Tab} {st : St}

def u8s (l : List UInt8) : List AV := l.map fun c => .int .u8 ((c.toNat : Nat) : Int)
theorem u8s_len (l : List UInt8) : (u8s l).length = l.length := by simp [u8s]
theorem u8s_snoc (l : List UInt8) (c : UInt8) : u8s (l ++ [c]) = u8s l ++ [.int .u8 (c.toNat : Int)] := by simp [u8s]
theorem u8s_append (a b : List UInt8) : u8s (a ++ b) = u8s a ++ u8s b := by simp [u8s]

/-- A slice of octets of one's own, that grows. -/
def Grow (st0 s : St) (v : AV) (l : List UInt8) : Prop := Sl s v 5 1 l.length (u8s l) ∧ Mine [] st0 v ∧ NK v
theorem Grow.nil (st0 s : St) : Grow st0 s .nilslice [] := ⟨.nil _ _ _, .nil _ _, fun _ _ _ _ h => by cases h⟩
theorem Grow.ge {st0 s : St} {v : AV} {l : List UInt8} (a : Grow st0 s v l) : ∀ n ∈ v.nms, st0.nx ≤ n := fun n hn => by
  rcases a.2.1 n hn with h | h
  · cases h
  · exact h
theorem Grow.frm {st0 s s' : St} {v : AV} {l : List UInt8} {S : List Nat} (a : Grow st0 s v l) (f : Frm S s s') (hw : s.Wf) (hn : ∀ n ∈ v.nms, n ∉ S) : Grow st0 s' v l := ⟨a.1.frm f hw hn, a.2.1, a.2.2⟩
theorem Grow.ext {st0 s s' : St} {v : AV} {l : List UInt8} (a : Grow st0 s v l) (f : Ext s s') (hw : s.Wf) : Grow st0 s' v l := a.frm (f.fr []) hw (by simp)
theorem Grow.dropLoc {st0 s : St} {v : AV} {l : List UInt8} {c : Nat} (a : Grow st0 s v l) (hw : s.Wf) : Grow st0 ⟨Go.Ev.dropLoc c s.h, s.nx⟩ v l := ⟨a.1.dropLoc hw, a.2.1, a.2.2⟩
theorem Grow.nms {st0 s : St} {v : AV} {l : List UInt8} (a : Grow st0 s v l) {n : Nat} (h : n ∈ v.nms) : (∃ ty, hget s.h n = some (.cells ty false (u8s l))) ∨ hget s.h n = some (.buf 5 1 (u8s l)) := by
  obtain ⟨⟨m, a⟩, _, _⟩ := a
  rcases a with ⟨h1, h2, h3⟩ | ⟨h1, h2, h3⟩ | ⟨ty', h1, h2, h3⟩ <;> rw [h1] at h <;> simp [AV.nms] at h <;> subst h
  · exact .inr h2
  · exact .inl ⟨_, h2⟩

/-- One octet appended, out of a block made for it. -/
theorem Grow.push {st0 s1 : St} (hF : st0.nx ≤ s1.nx) (hw : s1.Wf) {v : AV} {l : List UInt8} {c : UInt8} {k : Nat} (hk : 0 < k) (a : Grow st0 s1 v l) (hl : l.length < 35184372088831) :
    CRes (aappend 5 1 1 ⟨(s1.nx, .cells 5 false [.int .u8 (c.toNat : Int)]) :: s1.h, s1.nx + k⟩ v (.slice s1.nx 0 1 (.known 1))) fun v' s => Grow st0 s v' (l ++ [c]) ∧ Frm v.nms s1 s := by
  obtain ⟨a1, a2, a3⟩ := a
  have xa := Ext.newA hw (.cells 5 false [.int .u8 (c.toNat : Int)]) hk
  have hap := Sl.append (x := .slice s1.nx 0 1 (.known 1)) (j := 1) (new := [.int .u8 (c.toNat : Int)]) (b := 1) (Frm.refl xa.wf v.nms) (fun n h => .inl h) (a1.ext xa hw)
    (.inr ⟨_, _, _, rfl, rd_all (ty := 5) (l := false) (by simp [hget_cons]) rfl⟩) (by simp [AV.sc]) (by omega) (by omega) (.inl (by omega))
  refine (hap.also (fun _ _ h => aappend_nk h a3)).mono ?_
  rintro v2 s2 ⟨⟨k1, k2, k3, _⟩, hnk2⟩
  refine ⟨⟨by rw [u8s_snoc]; simpa using k1, fun n hn => ?_, hnk2⟩, (xa.fr v.nms).trans k2 (fun n h => .inl h)⟩
  rcases k3 n hn with h | h
  · exact a2 n h
  · simp at h; exact .inr (by omega)

theorem Grow.sc {st0 s : St} {v : AV} {l : List UInt8} (a : Grow st0 s v l) : v.sc = true := by
  obtain ⟨⟨m, a⟩, _, _⟩ := a
  rcases a with ⟨h1, h2, h3⟩ | ⟨h1, h2, h3⟩ | ⟨ty', h1, h2, h3⟩ <;> rw [h1] <;> rfl
theorem Grow.acells {st0 s : St} {v : AV} {l : List UInt8} (a : Grow st0 s v l) : Go.Ev.acells v = [v] := by
  obtain ⟨⟨m, a⟩, _, _⟩ := a
  rcases a with ⟨h1, h2, h3⟩ | ⟨h1, h2, h3⟩ | ⟨ty', h1, h2, h3⟩ <;> rw [h1] <;> rfl
theorem Grow.apart {st0 s : St} {v x : AV} {l : List UInt8} (a : Grow st0 s v l) {q ty : Nat} {cs : List AV} (hq : hget s.h q = some (.cells ty false cs)) (hx : x ∈ cs) (hn : ∀ k n, x ≠ .int k n) : q ∉ v.nms := fun hm => by
  have hz : ∀ l, x ∉ u8s l := fun l h => by
    simp only [u8s, List.mem_map] at h
    obtain ⟨c, _, h⟩ := h
    exact hn _ _ h.symm
  rcases a.nms hm with ⟨t, h⟩ | h <;> rw [h] at hq <;> injection hq with hq <;> injection hq
  rename_i _ _ e
  rw [← e] at hx
  exact hz _ hx

theorem Ext.dropGe {st0 s : St} (a : Ext st0 s) {c : Nat} (hc : st0.nx ≤ c) : Ext st0 ⟨Go.Ev.dropLoc c s.h, s.nx⟩ :=
  ⟨a.nx, a.wf.dropLoc _, fun n hn => by rw [hget_dropLoc_lt (Nat.lt_of_lt_of_le hn hc), a.keep n hn]⟩

/-- A builder in memory, and what it holds. -/
def Bd (st0 s : St) (q : Nat) (l : List UInt8) : Prop := st0.nx ≤ q ∧ ∃ a v, hget s.h q = some (.cells 84 false [a, v]) ∧ (a = .nilptr ∨ a = .ptr q 0) ∧ Grow st0 s v l ∧ q ∉ v.nms

theorem copyCheck_res (H : B.H_strings_Builder_copyCheck T) (hwf : st.Wf) {q : Nat} {a v : AV} (hq : hget st.h q = some (.cells 84 false [a, v])) (ha : a = .nilptr ∨ a = .ptr q 0) :
    CRes (call T (.fn 109 [] []) [.ptr q 0] st) fun _ s' => Frm [q] st s' ∧ hget s'.h q = some (.cells 84 false [.ptr q 0, v]) := by
  refine call_res H.e H.f rfl ?_
  rcases ha with rfl | rfl
  · have hw1 : wrCells st.h q 0 [.ptr q 0] = some (hset st.h q (.cells 84 false [.ptr q 0, v])) := wr_cells hq rfl (by simp [AV.sc])
    have hr : rdCell st.h q 0 = some .nilptr := by simp [rdCell, hq]
    have hen := fun st => call_entry (st := st) H.abi_NoEscape.en (first := []) (args := [.ptr q 0]) (cap := [])
    have x1 := Frm.set hwf hq (o := .cells 84 false [.ptr q 0, v])
    simp [B.strings_Builder_copyCheck, go_sem, RO.run, WO.run, hr, hen, B.E_abi_NoEscape, nilEq, hw1, hq]
    exact ⟨x1.dropLoc, hget_dropLoc_keep x1.wf (hget_hset_self hq) rfl⟩
  · simp [B.strings_Builder_copyCheck, go_sem, RO.run, show rdCell st.h q 0 = some (.ptr q 0) by simp [rdCell, hq], nilEq]
    exact ⟨((Ext.refl hwf).dropLoc).fr _, hget_dropLoc_keep hwf hq rfl⟩

theorem Bd.grow {st0 s : St} {q : Nat} {l : List UInt8} (b : Bd st0 s q l) : st0.nx ≤ q := b.1
theorem Bd.ext {st0 s s' : St} {q : Nat} {l : List UInt8} (b : Bd st0 s q l) (x : Ext s s') (hw : s.Wf) : Bd st0 s' q l := by
  obtain ⟨h1, a, v, h2, h3, h4, h5⟩ := b
  exact ⟨h1, a, v, x.get hw h2, h3, h4.ext x hw, h5⟩

theorem writeByte_res (H : B.H_strings_Builder_WriteByte T) {st0 : St} (hx : Ext st0 st) {q : Nat} {l : List UInt8} {c : UInt8} (b : Bd st0 st q l) (hl : l.length < 35184372088831) :
    CRes (call T (.fn 91 [] []) [.ptr q 0, .int .u8 (c.toNat : Int)] st) fun _ s' => Ext st0 s' ∧ Bd st0 s' q (l ++ [c]) := by
  obtain ⟨h1, a, v, h2, h3, h4, h5⟩ := b
  refine call_res H.e H.f rfl ?_
  simp [B.strings_Builder_WriteByte, go_sem]
  refine (copyCheck_res H.strings_Builder_copyCheck hx.wf h2 h3).mono ?_
  rintro _ s1 ⟨f1, g1⟩
  have x1 : Ext st0 s1 := hx.frm f1 (by simpa using h1)
  have g4 := h4.frm f1 hx.wf (by intro n hn h; simp at h; subst h; exact h5 hn)
  have hr : rdCell s1.h q 1 = some v := by simp [rdCell, g1]
  simp [go_sem, RO.run, NO.run, hr, reps]
  refine (g4.push x1.nx x1.wf (k := 1) (by omega) (c := c) hl).mono ?_
  rintro v2 s2 ⟨o2, f2⟩
  have x2 := x1.frm f2 h4.ge
  have g2 : hget s2.h q = some (.cells 84 false [.ptr q 0, v]) := f2.get x1.wf g1 h5
  have hw2 : wrCells s2.h q 1 [v2] = some (hset s2.h q (.cells 84 false [.ptr q 0, v2])) := wr_cells g2 o2.sc (by simp)
  have f3 := Frm.set x2.wf g2 (o := .cells 84 false [.ptr q 0, v2])
  have hap := o2.apart g2 (x := .ptr q 0) (by simp) (by simp)
  have g3 := hget_hset_self (o := .cells 84 false [.ptr q 0, v2]) g2
  simp [go_sem, WO.run, o2.acells, hw2]
  have x3 : Ext st0 ⟨hset s2.h q (.cells 84 false [.ptr q 0, v2]), s2.nx⟩ := x2.frm f3 (by simpa using h1)
  have o3 : Grow st0 ⟨hset s2.h q (.cells 84 false [.ptr q 0, v2]), s2.nx⟩ v2 (l ++ [c]) := o2.frm f3 x2.wf (by intro n hn h; simp at h; subst h; exact hap hn)
  refine ⟨?_, h1, _, v2, hget_dropLoc_keep x3.wf g3 rfl, .inr rfl, o3.dropLoc x3.wf, hap⟩
  exact x3.dropGe hx.nx

theorem writeByte_at (H : B.H_strings_Builder_WriteByte T) {st0 : St} (hx : Ext st0 st) {q : Nat} {l : List UInt8} (c : UInt8) {n : Int} (hn : n = (c.toNat : Int)) (b : Bd st0 st q l) (hl : l.length < 35184372088831) :
    CRes (call T (.fn 91 [] []) [.ptr q 0, .int .u8 n] st) fun _ s' => Ext st0 s' ∧ Bd st0 s' q (l ++ [c]) := by
  rw [hn]; exact writeByte_res H hx b hl

theorem toBytes_u8s : ∀ l : List UInt8, toBytes (u8s l) = some l
  | [] => rfl
  | c :: l => by
    have h : u8s (c :: l) = .int .u8 (c.toNat : Int) :: u8s l := rfl
    rw [h]
    simp [toBytes, toBytes_u8s l]

theorem string_res (H : B.H_strings_Builder_String T) {st0 : St} (hx : Ext st0 st) {q : Nat} {l : List UInt8} (b : Bd st0 st q l) (hl : 1 ≤ l.length) (hl2 : l.length < 4000000000000000000) :
    CRes (call T (.fn 92 [] []) [.ptr q 0] st) fun v s' => v = .str l ∧ Ext st0 s' := by
  obtain ⟨h1, a, v, h2, h3, h4, h5⟩ := b
  refine call_res H.e H.f rfl ?_
  have hr : rdCell st.h q 1 = some v := by simp [rdCell, h2]
  obtain ⟨⟨m, hs⟩, h6, h7⟩ := h4
  rcases hs with ⟨k1, k2, k3⟩ | ⟨k1, k2, k3⟩ | ⟨ty', k1, k2, k3⟩
  · omega
  · subst k1
    have xa := hx.trans (Ext.aside hx.wf 12)
    have hm := h6 m (by simp [AV.nms])
    simp at hm
    have f := Frm.hdel (st := ⟨st.h, st.nx + 12⟩) xa.wf m
    have x2 := xa.frm f (by simpa using hm)
    simp only [u8s_len] at k3
    simp [B.strings_Builder_String, go_sem, RO.run, WO.run, hr, hl, k2, u8s_len, toBytes_u8s, show l.length ≤ 9223372036854775807 by omega]
    exact x2.dropGe hx.nx
  · subst k1
    exact absurd rfl (h7 _ _ _ _)

def od2 (c : UInt8) : UInt8 := UInt8.ofNat (48 + c.toNat / 64)
def od1 (c : UInt8) : UInt8 := UInt8.ofNat (48 + c.toNat / 8 % 8)
def od0 (c : UInt8) : UInt8 := UInt8.ofNat (48 + c.toNat % 8)
theorem od_eq (c : UInt8) : IntKind.u8.wrap (48 + iand .u8 (ishr .u8 (c.toNat : Int) 6) 7) = ((od2 c).toNat : Int) ∧ IntKind.u8.wrap (48 + iand .u8 (ishr .u8 (c.toNat : Int) 3) 7) = ((od1 c).toNat : Int) ∧ IntKind.u8.wrap (48 + iand .u8 (ishr .u8 (c.toNat : Int) 0) 7) = ((od0 c).toNat : Int) := by
  have h : (List.range 256).all (fun n => decide (IntKind.u8.wrap (48 + iand .u8 (ishr .u8 ((n : Nat) : Int) 6) 7) = ((UInt8.ofNat (48 + n / 64)).toNat : Int)) && decide (IntKind.u8.wrap (48 + iand .u8 (ishr .u8 ((n : Nat) : Int) 3) 7) = ((UInt8.ofNat (48 + n / 8 % 8)).toNat : Int)) && decide (IntKind.u8.wrap (48 + iand .u8 (ishr .u8 ((n : Nat) : Int) 0) 7) = ((UInt8.ofNat (48 + n % 8)).toNat : Int))) = true := by kernel_rfl
  have := all_octets h c
  simp only [Bool.and_eq_true, decide_eq_true_eq] at this
  exact ⟨this.1.1, this.1.2, this.2⟩

/-- The canonical text of an octet. -/
def quoteC (c : UInt8) : List UInt8 := if c = 40 ∨ c = 41 ∨ c = 92 then [92, c] else if c.toNat < 32 ∨ 126 < c.toNat then [92, od2 c, od1 c, od0 c] else [c]
def quoteS (s : List UInt8) : List UInt8 := 40 :: (s.flatMap quoteC ++ [41])
theorem quoteC_len (c : UInt8) : 1 ≤ (quoteC c).length ∧ (quoteC c).length ≤ 4 := by
  unfold quoteC
  split
  · simp
  · split <;> simp
theorem Bd.snoc {st0 s : St} {q : Nat} {l m : List UInt8} (h : Bd st0 s q l) (e : l = m) : Bd st0 s q m := e ▸ h

theorem quote_oct (H : B.H_lex_Quote T) {st0 : St} (hx : Ext st0 st) {q : Nat} {l : List UInt8} {c : UInt8} {e : Env} (b : Bd st0 st q l) (hl : l.length < 35184372088827) (g3 : eget e 3 = .ptr q 0) (g5 : eget e 5 = .int .u8 (c.toNat : Int)) (g6 : eget e 6 = .int .i64 6) :
    Res (run T (.loop B.lex_Quote_l0) e st) fun x e' s' => x = .exit 3 ∧ Ext st0 s' ∧ Bd st0 s' q (l ++ [od2 c, od1 c, od0 c]) ∧ eget e' 0 = eget e 0 ∧ eget e' 3 = .ptr q 0 ∧ eget e' 9 = eget e 9 ∧ eget e' 10 = eget e 10 := by
  obtain ⟨d2, d1, d0⟩ := od_eq c
  rw [run_loop]
  simp [B.lex_Quote_l0, go_sem, g3, g5, g6, d2]
  refine (writeByte_res H.strings_Builder_WriteByte hx b (by omega)).mono ?_
  rintro _ s1 ⟨x1, b1⟩
  simp [go_sem]
  rw [run_loop, show IntKind.i64.wrap 3 = 3 from rfl]
  simp [go_sem, d1]
  refine (writeByte_res H.strings_Builder_WriteByte x1 b1 (by simp; omega)).mono ?_
  rintro _ s2 ⟨x2, b2⟩
  simp [go_sem]
  rw [run_loop, show IntKind.i64.wrap 0 = 0 from rfl]
  simp [go_sem, d0]
  refine (writeByte_res H.strings_Builder_WriteByte x2 b2 (by simp; omega)).mono ?_
  rintro _ s3 ⟨x3, b3⟩
  simp [go_sem]
  rw [run_loop, show IntKind.i64.wrap (-3) = -3 from rfl]
  simp [go_sem]
  exact ⟨x3, b3.snoc (by simp)⟩

theorem quote_loop (H : B.H_lex_Quote T) {s : List UInt8} (hs : s.length < 1000000000000) (st0 : St) : ∀ (m i : Nat) (e : Env) (st1 : St) (q : Nat) (l : List UInt8), i + m = s.length → Ext st0 st1 → Bd st0 st1 q l → l.length ≤ 1 + 4 * i → eget e 0 = .str s → eget e 3 = .ptr q 0 → eget e 9 = .int .i64 s.length → eget e 10 = .int .i64 i →
    Res (run T (.loop B.lex_Quote_l1) e st1) fun x e' s' => x = .exit 0 ∧ Ext st0 s' ∧ eget e' 3 = .ptr q 0 ∧ Bd st0 s' q (l ++ (s.drop i).flatMap quoteC) := by
  intro m
  induction m with
  | zero =>
    intro i e st1 q l hi hx hb hl g0 g3 g9 g10
    have hil : i = s.length := by omega
    subst hil
    rw [run_loop]
    simp [B.lex_Quote_l1, go_sem, g0, g3, g9, g10, hx, hb]
  | succ m ih =>
    intro i e st1 q l hi hx hb hl g0 g3 g9 g10
    have hil : i < s.length := by omega
    have hil' : (i : Int) < s.length := by omega
    obtain ⟨c, hc, hd⟩ := idx_some hil
    rw [run_loop]
    have next : ∀ (e' : Env) (s' : St), Ext st0 s' → Bd st0 s' q (l ++ quoteC c) → eget e' 0 = .str s → eget e' 3 = .ptr q 0 → eget e' 9 = .int .i64 s.length → eget e' 10 = .int .i64 ((i + 1 : Nat) : Int) →
        Res (run T (.loop B.lex_Quote_l1) e' s') fun x e' s' => x = .exit 0 ∧ Ext st0 s' ∧ eget e' 3 = .ptr q 0 ∧ Bd st0 s' q (l ++ (s.drop i).flatMap quoteC) := by
      intro e' s' hx' hb' k0 k3 k9 k10
      have := quoteC_len c
      have := ih (i + 1) e' s' q _ (by omega) hx' hb' (by rw [List.length_append]; omega) k0 k3 k9 k10
      rw [List.append_assoc] at this
      rw [hd]; exact this
    have e4 : IntKind.i64.wrap ((i : Int) + 1) = ((i + 1 : Nat) : Int) := wrap64' (by omega) (by omega)
    by_cases h1 : c = 40 ∨ c = 41 ∨ c = 92
    · have hq : quoteC c = [92, c] := by simp [quoteC, h1]
      have hcn : (c.toNat : Int) = 40 ∨ (c.toNat : Int) = 41 ∨ (c.toNat : Int) = 92 := by rcases h1 with rfl | rfl | rfl <;> simp
      obtain ⟨n, hn⟩ : ∃ n : Int, n = c.toNat := ⟨_, rfl⟩
      rw [← hn] at hcn
      rcases hcn with rfl | rfl | rfl
      all_goals
        simp [B.lex_Quote_l1, go_sem, g0, g3, g9, g10, hil', hc, ← hn]
        refine (writeByte_at H.strings_Builder_WriteByte hx 92 rfl hb (by omega)).mono ?_
        rintro _ s1 ⟨x1, b1⟩
        simp [go_sem]
        refine (writeByte_at H.strings_Builder_WriteByte x1 c hn b1 (by simp; omega)).mono ?_
        rintro _ s2 ⟨x2, b2⟩
        simp [go_sem, e4]
        exact next _ _ x2 (b2.snoc (by rw [hq]; simp)) (by simp [go_sem]) (by simp [go_sem]) (by simp [go_sem]) (by simp [go_sem])
    · simp only [not_or] at h1
      have n1 : ¬ (c.toNat : Int) = 40 := u8_ne h1.1 rfl
      have n2 : ¬ (c.toNat : Int) = 41 := u8_ne h1.2.1 rfl
      have n3 : ¬ (c.toNat : Int) = 92 := u8_ne h1.2.2 rfl
      have m1 : ¬ c.toNat = 40 := by omega
      have m2 : ¬ c.toNat = 41 := by omega
      have m3 : ¬ c.toNat = 92 := by omega
      by_cases h2 : c.toNat < 32 ∨ 126 < c.toNat
      · have hq : quoteC c = [92, od2 c, od1 c, od0 c] := by simp [quoteC, h1, h2]
        have h2' : (c.toNat : Int) < 32 ∨ ¬ (c.toNat : Int) < 32 ∧ (126 : Int) < c.toNat := by omega
        rcases h2' with h2' | ⟨h2', h2''⟩
        · simp [B.lex_Quote_l1, go_sem, g0, g3, g9, g10, hil', hc, n1, n2, n3, m1, m2, m3, h2']
          refine (writeByte_at H.strings_Builder_WriteByte hx 92 rfl hb (by omega)).mono ?_
          rintro _ s1 ⟨x1, b1⟩
          simp [go_sem]
          refine (quote_oct H (c := c) x1 b1 (by simp; omega) (by simp [go_sem]) (by simp [go_sem]) (by simp [go_sem])).mono ?_
          rintro x e' s2 ⟨rfl, x2, b2, k0, k3, k9, k10⟩
          simp [go_sem] at k0 k9 k10
          simp [go_sem, e4, k0, k3, k9, k10]
          exact next _ _ x2 (b2.snoc (by rw [hq]; simp)) (by simp [go_sem]) (by simp [go_sem]) (by simp [go_sem]) (by simp [go_sem])
        · simp [B.lex_Quote_l1, go_sem, g0, g3, g9, g10, hil', hc, n1, n2, n3, m1, m2, m3, h2', h2'']
          refine (writeByte_at H.strings_Builder_WriteByte hx 92 rfl hb (by omega)).mono ?_
          rintro _ s1 ⟨x1, b1⟩
          simp [go_sem]
          refine (quote_oct H (c := c) x1 b1 (by simp; omega) (by simp [go_sem]) (by simp [go_sem]) (by simp [go_sem])).mono ?_
          rintro x e' s2 ⟨rfl, x2, b2, k0, k3, k9, k10⟩
          simp [go_sem] at k0 k9 k10
          simp [go_sem, e4, k0, k3, k9, k10]
          exact next _ _ x2 (b2.snoc (by rw [hq]; simp)) (by simp [go_sem]) (by simp [go_sem]) (by simp [go_sem]) (by simp [go_sem])
      · have hq : quoteC c = [c] := by simp [quoteC, h1, h2]
        have h2' : ¬ (c.toNat : Int) < 32 := by omega
        have h2'' : ¬ (126 : Int) < c.toNat := by omega
        simp [B.lex_Quote_l1, go_sem, g0, g3, g9, g10, hil', hc, n1, n2, n3, m1, m2, m3, h2', h2'']
        refine (writeByte_res H.strings_Builder_WriteByte hx hb (by omega)).mono ?_
        rintro _ s1 ⟨x1, b1⟩
        simp [go_sem, e4]
        exact next _ _ x1 (b1.snoc (by rw [hq])) (by simp [go_sem]) (by simp [go_sem]) (by simp [go_sem]) (by simp [go_sem])

theorem quote_tells (H : B.H_lex_Quote T) (hwf : st.Wf) {s : List UInt8} (hs : s.length < 1000000000000) : Tells T st (.fn 71 [] []) [.str s] (.str (quoteS s)) := by
  refine tells_of H.e H.f rfl ?_
  have hx := Ext.new hwf (.cells 84 false [.nilptr, .nilslice])
  have hb : Bd st ⟨(st.nx, .cells 84 false [.nilptr, .nilslice]) :: st.h, st.nx + 1⟩ st.nx [] := ⟨Nat.le_refl _, .nilptr, .nilslice, by simp [hget_cons], .inl rfl, .nil _ _, by simp [AV.nms]⟩
  simp [B.lex_Quote, go_sem, NO.run]
  refine (writeByte_at H.strings_Builder_WriteByte hx 40 rfl hb (by simp)).mono ?_
  rintro _ s1 ⟨x1, b1⟩
  simp [go_sem]
  refine (quote_loop H hs st s.length 0 _ s1 st.nx [40] (by simp) x1 b1 (by simp) (by simp [go_sem]) (by simp [go_sem]) (by simp [go_sem]) (by simp [go_sem])).mono ?_
  rintro x e' s2 ⟨rfl, x2, k3, b2⟩
  simp [go_sem, k3]
  have hlen : ∀ l : List UInt8, (l.flatMap quoteC).length ≤ 4 * l.length := by
    intro l
    induction l with
    | nil => simp
    | cons c l ih =>
      have := quoteC_len c
      simp only [List.flatMap_cons, List.length_append, List.length_cons]
      omega
  have := hlen s
  rw [List.drop_zero] at b2
  refine (writeByte_at H.strings_Builder_WriteByte x2 41 rfl b2 (by simp only [List.length_append, List.length_singleton]; omega)).mono ?_
  rintro _ s3 ⟨x3, b3⟩
  simp [go_sem]
  refine (string_res H.strings_Builder_String x3 (b3.snoc (m := quoteS s) (by simp [quoteS])) (by simp [quoteS]) (by simp only [quoteS, List.length_append, List.length_cons, List.length_nil]; omega)).mono ?_
  rintro v s4 ⟨rfl, x4⟩
  simp [go_sem]
  exact x4
end Go.Ev

/- Unquote: the source's steps. -/
namespace Go.Ev
open Go
set_option linter.unusedSimpArgs false
set_option linter.unusedSectionVars false
set_option linter.unusedVariables false

variable {T : Tab} {st : St}

def octN : Nat → Nat → List UInt8 → Nat × Nat
  | 0, n, _ => (n, 0)
  | k + 1, n, c :: r => if 48 ≤ c.toNat ∧ c.toNat ≤ 55 then ((octN k (8 * n + (c.toNat - 48)) r).1, (octN k (8 * n + (c.toNat - 48)) r).2 + 1) else (n, 0)
  | _ + 1, n, [] => (n, 0)
def lineN (c : UInt8) (r : List UInt8) : Nat := if c = 13 ∧ r.head? = some 10 then 1 else 0
def letter (c : UInt8) : Option UInt8 := if c = 110 then some 10 else if c = 114 then some 13 else if c = 116 then some 9 else if c = 98 then some 8 else if c = 102 then some 12 else none
/-- An escape behind its backslash: what it denotes, and how many octets it takes. -/
def esc : List UInt8 → Option (List UInt8 × Nat)
  | [] => none
  | c :: r => some (match letter c with
    | some o => ([o], 1)
    | none => if c = 10 ∨ c = 13 then ([], 1 + lineN c r) else if 48 ≤ c.toNat ∧ c.toNat ≤ 55 then ([UInt8.ofNat (octN 2 (c.toNat - 48) r).1], 1 + (octN 2 (c.toNat - 48) r).2) else ([c], 1))
/-- The inside of a quoted string, at a depth: what it denotes, and what is left behind it. -/
def unq : Nat → Nat → List UInt8 → List UInt8 → Option (List UInt8 × List UInt8)
  | 0, _, _, _ => none
  | _ + 1, _, [], _ => none
  | f + 1, d, c :: r, out =>
    if c = 92 then match esc r with
      | none => none
      | some (o, n) => unq f d (r.drop n) (out ++ o)
    else if c = 40 then unq f (d + 1) r (out ++ [40])
    else if c = 41 then if d = 1 then some (out, r) else unq f (d - 1) r (out ++ [41])
    else if c = 10 ∨ c = 13 then unq f d (r.drop (lineN c r)) (out ++ [10])
    else unq f d r (out ++ [c])

/-- A quoted string in memory: its text, how much of it is read, what was read out of it, how deep. -/
def QAt (st0 s' : St) (q : Nat) (s : List UInt8) (k : Nat) (out : List UInt8) (d : Int) : Prop := st0.nx ≤ q ∧ ∃ v, hget s'.h q = some (.cells 164 false [.str s, .int .i64 k, v, .int .i64 d]) ∧ Grow st0 s' v out ∧ q ∉ v.nms

theorem QAt.ext {st0 s s' : St} {q k : Nat} {t l : List UInt8} {d : Int} (b : QAt st0 s q t k l d) (x : Ext s s') (hw : s.Wf) : QAt st0 s' q t k l d := by
  obtain ⟨h1, v, h2, h4, h5⟩ := b
  exact ⟨h1, v, x.get hw h2, h4.ext x hw, h5⟩
/-- Its numbers written anew. -/
theorem QAt.put {st0 s : St} {q k k' : Nat} {t l : List UInt8} {d d' : Int} {v : AV} (hx : Ext st0 s) (h1 : st0.nx ≤ q) (h2 : hget s.h q = some (.cells 164 false [.str t, .int .i64 k, v, .int .i64 d])) (h4 : Grow st0 s v l) (h5 : q ∉ v.nms) :
    Ext st0 ⟨hset s.h q (.cells 164 false [.str t, .int .i64 k', v, .int .i64 d']), s.nx⟩ ∧ QAt st0 ⟨hset s.h q (.cells 164 false [.str t, .int .i64 k', v, .int .i64 d']), s.nx⟩ q t k' l d' := by
  have f3 := Frm.set hx.wf h2 (o := .cells 164 false [.str t, .int .i64 k', v, .int .i64 d'])
  refine ⟨hx.frm f3 (by simpa using h1), h1, v, hget_hset_self h2, h4.frm f3 hx.wf ?_, h5⟩
  intro n hn h
  simp at h; subst h; exact h5 hn
/-- What it holds written anew. -/
theorem QAt.out {st0 s : St} {q k : Nat} {t l : List UInt8} {d : Int} {u v : AV} (hx : Ext st0 s) (h1 : st0.nx ≤ q) (h2 : hget s.h q = some (.cells 164 false [.str t, .int .i64 k, u, .int .i64 d])) (h4 : Grow st0 s v l) :
    wrCells s.h q 2 [v] = some (hset s.h q (.cells 164 false [.str t, .int .i64 k, v, .int .i64 d])) ∧ Ext st0 ⟨hset s.h q (.cells 164 false [.str t, .int .i64 k, v, .int .i64 d]), s.nx⟩ ∧ QAt st0 ⟨hset s.h q (.cells 164 false [.str t, .int .i64 k, v, .int .i64 d]), s.nx⟩ q t k l d := by
  have f3 := Frm.set hx.wf h2 (o := .cells 164 false [.str t, .int .i64 k, v, .int .i64 d])
  have h5 := h4.apart h2 (x := .str t) (by simp) (by simp)
  refine ⟨wr_cells h2 h4.sc (by simp), hx.frm f3 (by simpa using h1), h1, v, hget_hset_self h2, h4.frm f3 hx.wf ?_, h5⟩
  intro n hn h
  simp at h; subst h; exact h5 hn

theorem QAt.dropLoc {st0 s : St} {q k c : Nat} {t l : List UInt8} {d : Int} (b : QAt st0 s q t k l d) (hw : s.Wf) : QAt st0 ⟨Go.Ev.dropLoc c s.h, s.nx⟩ q t k l d := by
  obtain ⟨h1, v, h2, h4, h5⟩ := b
  exact ⟨h1, v, hget_dropLoc_keep hw h2 rfl, h4.dropLoc hw, h5⟩

theorem QAt.push {st0 s1 : St} (hx : Ext st0 s1) {q k : Nat} {t out : List UInt8} {d : Int} (b : QAt st0 s1 q t k out d) (hl : out.length < 35184372088831) (c : UInt8) :
    ∃ v, rdCell s1.h q 2 = some v ∧ CRes (aappend 5 1 1 ⟨(s1.nx, .cells 5 false [.int .u8 (c.toNat : Int)]) :: s1.h, s1.nx + 1⟩ v (.slice s1.nx 0 1 (.known 1))) fun v' s => acells v' = [v'] ∧ ∃ h', wrCells s.h q 2 [v'] = some h' ∧ Ext st0 ⟨h', s.nx⟩ ∧ QAt st0 ⟨h', s.nx⟩ q t k (out ++ [c]) d := by
  obtain ⟨h1, v, h2, h4, h5⟩ := b
  refine ⟨v, by simp [rdCell, h2], (h4.push hx.nx hx.wf (k := 1) (by omega) (c := c) hl).mono ?_⟩
  rintro v2 s2 ⟨o2, f2⟩
  have x2 := hx.frm f2 h4.ge
  have g2 := f2.get hx.wf h2 h5
  obtain ⟨z1, z2, z3⟩ := QAt.out x2 h1 g2 o2
  exact ⟨o2.acells, _, z1, z2, z3⟩

theorem next_res (H : B.H_lex_quoted_next T) {st0 : St} (hx : Ext st0 st) {q k : Nat} {s out : List UInt8} {d : Int} (hs : s.length < 1000000000000) (hk : k ≤ s.length) (b : QAt st0 st q s k out d) :
    CRes (call T (.fn 86 [] []) [.ptr q 0] st) fun v s' => Ext st0 s' ∧ ((s[k]? = none ∧ v = .tuple [.int .u8 0, .bool false] ∧ QAt st0 s' q s k out d) ∨ ∃ c, s[k]? = some c ∧ v = .tuple [.int .u8 (c.toNat : Int), .bool true] ∧ QAt st0 s' q s (k + 1) out d) := by
  obtain ⟨h1, w, h2, h4, h5⟩ := b
  refine call_res H.e H.f rfl ?_
  have r0 : rdCell st.h q 0 = some (.str s) := by simp [rdCell, h2]
  have r1 : rdCell st.h q 1 = some (.int .i64 k) := by simp [rdCell, h2]
  have xa := Ext.aside hx.wf 12
  have b0 : QAt st0 ⟨st.h, st.nx + 12⟩ q s k out d := QAt.ext ⟨h1, w, h2, h4, h5⟩ xa hx.wf
  by_cases hkl : k = s.length
  · subst hkl
    simp [B.lex_quoted_next, go_sem, RO.run, r0, r1]
    exact ⟨(hx.trans xa).dropGe hx.nx, b0.dropLoc xa.wf⟩
  · have hkl' : ¬ (k : Int) = s.length := by omega
    have hkl2 : ¬ (s.length : Int) ≤ k := by omega
    have hkl3 : ¬ s.length ≤ k := by omega
    obtain ⟨c, hc, hd⟩ := idx_some (s := s) (i := k) (by omega)
    have e4 : IntKind.i64.wrap ((k : Int) + 1) = ((k + 1 : Nat) : Int) := wrap64' (by omega) (by omega)
    have e5 : IntKind.i64.wrap (((k + 1 : Nat) : Int) - 1) = (k : Int) := by rw [wrap64' (by omega) (by omega)]; omega
    obtain ⟨k2, hk2⟩ : ∃ k2, k2 = k + 1 := ⟨_, rfl⟩
    rw [← hk2] at e4 e5
    have hw1 : wrCells st.h q 1 [.int .i64 (k2 : Int)] = some (hset st.h q (.cells 164 false [.str s, .int .i64 k2, w, .int .i64 d])) := wr_cells h2 rfl (by simp)
    obtain ⟨y1, y2⟩ := QAt.put (k' := k2) (d' := d) (hx.trans xa) h1 (k := k) h2 (h4.ext xa hx.wf) h5
    have q0 : rdCell (hset st.h q (.cells 164 false [.str s, .int .i64 k2, w, .int .i64 d])) q 0 = some (.str s) := by simp [rdCell, hget_hset_self h2]
    have q1 : rdCell (hset st.h q (.cells 164 false [.str s, .int .i64 k2, w, .int .i64 d])) q 1 = some (.int .i64 k2) := by simp [rdCell, hget_hset_self h2]
    simp [B.lex_quoted_next, go_sem, RO.run, WO.run, r0, r1, hkl', hkl2, hkl3, e4, hw1, q0, q1, e5, hc]
    rw [← hk2]
    have z := Ext.aside y1.wf 14
    exact ⟨(y1.trans z).dropGe hx.nx, (y2.ext z y1.wf).dropLoc z.wf⟩

theorem line_res (H : B.H_lex_quoted_line T) {st0 : St} (hx : Ext st0 st) {q k : Nat} {s out : List UInt8} {d : Int} (hs : s.length < 1000000000000) (hk : k ≤ s.length) (c : UInt8) (b : QAt st0 st q s k out d) :
    CRes (call T (.fn 107 [] []) [.ptr q 0, .int .u8 (c.toNat : Int)] st) fun v s' => Ext st0 s' ∧ QAt st0 s' q s (k + lineN c (s.drop k)) out d := by
  obtain ⟨h1, w, h2, h4, h5⟩ := b
  refine call_res H.e H.f rfl ?_
  have r0 : rdCell st.h q 0 = some (.str s) := by simp [rdCell, h2]
  have r1 : rdCell st.h q 1 = some (.int .i64 k) := by simp [rdCell, h2]
  have xa := fun n => Ext.aside hx.wf n
  have b0 : ∀ n, QAt st0 ⟨st.h, st.nx + n⟩ q s k out d := fun n => QAt.ext ⟨h1, w, h2, h4, h5⟩ (xa n) hx.wf
  have stay : lineN c (s.drop k) = 0 → ∀ n, Ext st0 ⟨dropLoc st.nx st.h, st.nx + n⟩ ∧ QAt st0 ⟨dropLoc st.nx st.h, st.nx + n⟩ q s (k + lineN c (s.drop k)) out d := fun h n => by
    rw [h]
    exact ⟨(hx.trans (xa n)).dropGe hx.nx, (b0 n).dropLoc (xa n).wf⟩
  by_cases h13 : c = 13
  · subst h13
    by_cases hkl : k = s.length
    · subst hkl
      simp [B.lex_quoted_line, go_sem, RO.run, r0, r1]
      have := stay (by simp [lineN])
      simp only [List.drop_length] at this
      exact this _
    · have hkl' : ¬ (k : Int) = s.length := by omega
      have hkl2 : (k : Int) < s.length := by omega
      have hkl3 : k < s.length := by omega
      obtain ⟨b, hc, hd⟩ := idx_some (s := s) (i := k) (by omega)
      by_cases h10 : b = 10
      · subst h10
        have e4 : IntKind.i64.wrap ((k : Int) + 1) = ((k + 1 : Nat) : Int) := wrap64' (by omega) (by omega)
        obtain ⟨k2, hk2⟩ : ∃ k2, k2 = k + 1 := ⟨_, rfl⟩
        have hln : k + lineN 13 (s.drop k) = k2 := by simp [lineN, hd, hk2]
        rw [← hk2] at e4
        have hw1 : wrCells st.h q 1 [.int .i64 (k2 : Int)] = some (hset st.h q (.cells 164 false [.str s, .int .i64 k2, w, .int .i64 d])) := wr_cells h2 rfl (by simp)
        simp [B.lex_quoted_line, go_sem, RO.run, WO.run, r0, r1, hkl2, hc, e4, hw1]
        rw [hln]
        obtain ⟨y1, y2⟩ := QAt.put (k' := k2) (d' := d) (hx.trans (xa 30)) h1 (k := k) h2 (h4.ext (xa 30) hx.wf) h5
        exact ⟨y1.dropGe hx.nx, y2.dropLoc y1.wf⟩
      · have n1 : ¬ (b.toNat : Int) = 10 := u8_ne h10 rfl
        have m1 : ¬ b.toNat = 10 := by omega
        simp [B.lex_quoted_line, go_sem, RO.run, r0, r1, hkl2, hc, n1, m1]
        exact stay (by simp [lineN, hd, h10]) _
  · have n1 : ¬ (c.toNat : Int) = 13 := u8_ne h13 rfl
    have m1 : ¬ c.toNat = 13 := by omega
    simp [B.lex_quoted_line, go_sem, n1, m1]
    exact stay (by simp [lineN, h13]) _

theorem letters_res (H : B.H_lex_letters T) (hwf : st.Wf) : CRes (call T (.fn 117 [] []) [] st) fun v s' => v = .map st.nx ∧ Ext st s' ∧ hget s'.h st.nx = some (.map [(.int .u8 110, .int .u8 10), (.int .u8 114, .int .u8 13), (.int .u8 116, .int .u8 9), (.int .u8 98, .int .u8 8), (.int .u8 102, .int .u8 12)]) := by
  refine call_res H.e H.f rfl ?_
  simp [B.lex_letters, go_sem, NO.run, WO.run, hget_cons, hset_cons, mins, cellEqK]
  have x := Ext.new hwf (.map [(.int .u8 110, .int .u8 10), (.int .u8 114, .int .u8 13), (.int .u8 116, .int .u8 9), (.int .u8 98, .int .u8 8), (.int .u8 102, .int .u8 12)])
  exact ⟨x.dropLoc, hget_dropLoc_keep x.wf (by simp [hget_cons]) rfl⟩

theorem octal_loop (H : B.H_lex_quoted_escape T) {st0 : St} {q : Nat} {s out : List UInt8} {d : Int} (hs : s.length < 1000000000000) : ∀ (m i n k : Nat) (e : Env) (st1 : St), i + m = 2 → (i = 0 → n ≤ 7) → (i = 1 → n ≤ 63) → n ≤ 511 → k ≤ s.length → Ext st0 st1 → QAt st0 st1 q s k out d → eget e 0 = .ptr q 0 → eget e 7 = .int .i64 n → eget e 63 = .int .i64 i →
    Res (run T (.loop B.lex_quoted_escape_l0) e st1) fun x e' s' => x = .exit 1 ∧ Ext st0 s' ∧ QAt st0 s' q s (k + (octN m n (s.drop k)).2) out d ∧ eget e' 0 = .ptr q 0 ∧ eget e' 7 = .int .i64 ((octN m n (s.drop k)).1 : Nat) ∧ (octN m n (s.drop k)).1 ≤ 511 := by
  intro m
  induction m with
  | zero =>
    intro i n k e st1 hi hn1 hn2 hn hk hx b g0 g7 g63
    have : i = 2 := by omega
    subst this
    rw [run_loop]
    simp [B.lex_quoted_escape_l0, go_sem, g0, g7, g63, octN, hx, b, hn]
  | succ m ih =>
    intro i n k e st1 hi hn1 hn2 hn hk hx b g0 g7 g63
    have b' := b
    obtain ⟨h1, w, h2, h4, h5⟩ := b'
    have hi2 : (i : Int) < 2 := by omega
    have r0 : rdCell st1.h q 0 = some (.str s) := by simp [rdCell, h2]
    have r1 : rdCell st1.h q 1 = some (.int .i64 k) := by simp [rdCell, h2]
    rw [run_loop]
    have xa := Ext.aside hx.wf 40
    have stay : octN (m + 1) n (s.drop k) = (n, 0) → Ext st0 ⟨st1.h, st1.nx + 40⟩ ∧ QAt st0 ⟨st1.h, st1.nx + 40⟩ q s (k + (octN (m + 1) n (s.drop k)).2) out d ∧ (n : Int) = ((octN (m + 1) n (s.drop k)).1 : Nat) ∧ (octN (m + 1) n (s.drop k)).1 ≤ 511 := fun h => by
      rw [h]
      exact ⟨hx.trans xa, b.ext xa hx.wf, rfl, hn⟩
    by_cases hkl : k = s.length
    · subst hkl
      have z := stay (by simp [octN])
      simp [B.lex_quoted_escape_l0, go_sem, g0, g7, g63, RO.run, r0, r1, hi2]
      simp only [List.drop_length] at z
      obtain ⟨z1, z2, z3, z4⟩ := z
      exact ⟨z1, z2, by omega, z4⟩
    · have hkl2 : (k : Int) < s.length := by omega
      obtain ⟨c, hc, hd⟩ := idx_some (s := s) (i := k) (by omega)
      by_cases hlo : 48 ≤ c.toNat
      · by_cases hhi : c.toNat ≤ 55
        · have e1 : IntKind.u8.wrap ((c.toNat : Int) - 48) = ((c.toNat - 48 : Nat) : Int) := by
            rw [wrap_u8 (by omega) (by have := c.toNat_lt; omega)]; omega
          have e2 : IntKind.i64.wrap ((c.toNat - 48 : Nat) : Int) = ((c.toNat - 48 : Nat) : Int) := wrap64' (by omega) (by omega)
          have e3 : IntKind.i64.wrap (8 * (n : Int)) = 8 * n := wrap64' (by omega) (by omega)
          have e4 : IntKind.i64.wrap (8 * (n : Int) + ((c.toNat - 48 : Nat) : Int)) = ((8 * n + (c.toNat - 48) : Nat) : Int) := by rw [wrap64' (by omega) (by omega)]; omega
          have e5 : IntKind.i64.wrap ((k : Int) + 1) = ((k + 1 : Nat) : Int) := wrap64' (by omega) (by omega)
          have e6 : IntKind.i64.wrap ((i : Int) + 1) = ((i + 1 : Nat) : Int) := wrap64' (by omega) (by omega)
          have hoc : octN (m + 1) n (s.drop k) = ((octN m (8 * n + (c.toNat - 48)) (s.drop (k + 1))).1, (octN m (8 * n + (c.toNat - 48)) (s.drop (k + 1))).2 + 1) := by rw [hd]; simp [octN, hlo, hhi]
          rw [hoc]
          have hkk : k + ((octN m (8 * n + (c.toNat - 48)) (s.drop (k + 1))).2 + 1) = k + 1 + (octN m (8 * n + (c.toNat - 48)) (s.drop (k + 1))).2 := by omega
          rw [hkk]
          obtain ⟨k2, hk2⟩ : ∃ k2, k2 = k + 1 := ⟨_, rfl⟩
          obtain ⟨n2, hn2⟩ : ∃ n2, n2 = 8 * n + (c.toNat - 48) := ⟨_, rfl⟩
          rw [← hk2] at e5 ⊢
          rw [← hn2] at e4 ⊢
          have hw1 : wrCells st1.h q 1 [.int .i64 (k2 : Int)] = some (hset st1.h q (.cells 164 false [.str s, .int .i64 k2, w, .int .i64 d])) := wr_cells h2 rfl (by simp)
          have xb := Ext.aside hx.wf (40 + 17)
          obtain ⟨y1, y2⟩ := QAt.put (k' := k2) (d' := d) (hx.trans xb) h1 (k := k) h2 (h4.ext xb hx.wf) h5
          simp [B.lex_quoted_escape_l0, go_sem, g0, g7, g63, RO.run, WO.run, r0, r1, hi2, hkl2, hc, show (48 : Int) ≤ c.toNat by omega, show (c.toNat : Int) ≤ 55 by omega, hlo, hhi, e1, e2, e3, e4, e5, hw1]
          refine (ih (i + 1) n2 k2 _ _ (by omega) (by omega) (by omega) (by omega) (by omega) y1 y2 ?_ ?_ ?_).mono fun x e s h => h
          · simp [go_sem]
          · simp [go_sem]
          · simp [go_sem, e6]
        · have z := stay (by simp [octN, hd, hlo, hhi])
          simp [B.lex_quoted_escape_l0, go_sem, g0, g7, g63, RO.run, r0, r1, hi2, hkl2, hc, show (48 : Int) ≤ c.toNat by omega, show ¬ (c.toNat : Int) ≤ 55 by omega, hlo, hhi]
          obtain ⟨z1, z2, z3, z4⟩ := z
          exact ⟨z1, z2, by omega, z4⟩
      · have z := stay (by simp [octN, hd, hlo])
        simp [B.lex_quoted_escape_l0, go_sem, g0, g7, g63, RO.run, r0, r1, hi2, hkl2, hc, show ¬ (48 : Int) ≤ c.toNat by omega, hlo]
        obtain ⟨z1, z2, z3, z4⟩ := z
        exact ⟨z1, z2, by omega, z4⟩

def letterM : List (AV × AV) := [(.int .u8 110, .int .u8 10), (.int .u8 114, .int .u8 13), (.int .u8 116, .int .u8 9), (.int .u8 98, .int .u8 8), (.int .u8 102, .int .u8 12)]
theorem lookup_letter (c : UInt8) : mfind (.i .u8) (.int .u8 (c.toNat : Int)) letterM = some ((letter c).map fun o => .int .u8 (o.toNat : Int)) := by
  have hn : ∀ k : UInt8, c ≠ k → ¬ (c.toNat : Int) = (k.toNat : Int) := fun k h => u8_ne h rfl
  unfold letterM letter
  by_cases h1 : c = 110
  · subst h1; rfl
  by_cases h2 : c = 114
  · subst h2; rfl
  by_cases h3 : c = 116
  · subst h3; rfl
  by_cases h4 : c = 98
  · subst h4; rfl
  by_cases h5 : c = 102
  · subst h5; rfl
  have m1 := hn _ h1
  have m2 := hn _ h2
  have m3 := hn _ h3
  have m4 := hn _ h4
  have m5 := hn _ h5
  simp at m1 m2 m3 m4 m5
  simp [mfind, cellEqK, h1, h2, h3, h4, h5, m1, m2, m3, m4, m5]
theorem escape_res (H : B.H_lex_quoted_escape T) {st0 : St} (hx : Ext st0 st) {q k : Nat} {s out : List UInt8} {d : Int} (hs : s.length < 1000000000000) (hk : k ≤ s.length) (ho : out.length ≤ s.length) (b : QAt st0 st q s k out d) :
    CRes (call T (.fn 106 [] []) [.ptr q 0] st) fun v s' => Ext st0 s' ∧ match esc (s.drop k) with
      | none => v = .bool false
      | some (o, n) => v = .bool true ∧ QAt st0 s' q s (k + n) (out ++ o) d := by
  refine call_res H.e H.f rfl ?_
  simp [B.lex_quoted_escape, go_sem]
  refine (next_res H.lex_quoted_next hx hs hk b).mono ?_
  rintro v1 s1 ⟨x1, ⟨hc, rfl, b1⟩ | ⟨c, hc, rfl, b1⟩⟩
  · have hd : s.drop k = [] := by rw [List.drop_eq_nil_iff]; exact List.getElem?_eq_none_iff.1 hc
    simp [go_sem, hd, esc]
    exact x1.dropGe hx.nx
  · have hkl : k < s.length := by
      rcases Nat.lt_or_ge k s.length with h | h
      · exact h
      · rw [List.getElem?_eq_none h] at hc; cases hc
    obtain ⟨c', hc', hd⟩ := idx_some hkl
    rw [hc] at hc'; cases hc'
    simp [go_sem]
    refine (letters_res H.lex_letters x1.wf).mono ?_
    rintro v2 s2 ⟨rfl, x2, hm⟩
    have y2 := x1.trans x2
    have b2 := b1.ext x2 x1.wf
    have hlk := lookup_letter c
    have hm' : hget s2.h s1.nx = some (.map letterM) := hm
    have push : ∀ (o : UInt8) (e : Env) (s3 : St), Ext st0 s3 → QAt st0 s3 q s (k + 1) out d → True := fun _ _ _ _ _ => trivial
    have hp := fun o => b2.push y2 (by omega) o
    cases hl : letter c with
    | some o =>
      rw [hl] at hlk
      obtain ⟨w, r2, hw⟩ := hp o
      simp [go_sem, RO.run, NO.run, hm', hlk, cellEqK, r2, reps]
      refine hw.mono ?_
      rintro v3 s3 ⟨a3, h', w3, x3, q3⟩
      simp [go_sem, WO.run, a3, w3, hd, esc, hl]
      exact ⟨x3.dropGe hx.nx, q3.dropLoc x3.wf⟩
    | none =>
      rw [hl] at hlk
      by_cases hln : c = 10 ∨ c = 13
      · have he : esc (s.drop k) = some ([], 1 + lineN c (s.drop (k + 1))) := by rw [hd]; simp [esc, hl, hln]
        have hcn : (c.toNat : Int) = 10 ∨ (c.toNat : Int) = 13 := by rcases hln with rfl | rfl <;> simp
        have hll := line_res H.lex_quoted_line y2 hs (by omega) c b2
        rw [he]
        obtain ⟨n, hn⟩ : ∃ n : Int, n = c.toNat := ⟨_, rfl⟩
        rw [← hn] at hcn hll hlk
        have fin : ∀ s3, Ext st0 s3 → QAt st0 s3 q s (k + 1 + lineN c (s.drop (k + 1))) out d → Ext st0 ⟨dropLoc st.nx s3.h, s3.nx⟩ ∧ QAt st0 ⟨dropLoc st.nx s3.h, s3.nx⟩ q s (k + (1 + lineN c (s.drop (k + 1)))) out d := fun s3 x3 q3 => by
          rw [← Nat.add_assoc]; exact ⟨x3.dropGe hx.nx, q3.dropLoc x3.wf⟩
        rcases hcn with rfl | rfl
        · simp [go_sem, RO.run, NO.run, hm', hlk, cellEqK, ← hn]
          refine hll.mono ?_
          rintro v3 s3 ⟨x3, q3⟩
          simp [go_sem]
          exact fin s3 x3 q3
        · simp [go_sem, RO.run, NO.run, hm', hlk, cellEqK, ← hn]
          refine hll.mono ?_
          rintro v3 s3 ⟨x3, q3⟩
          simp [go_sem]
          exact fin s3 x3 q3
      · simp only [not_or] at hln
        have n1 : ¬ (c.toNat : Int) = 10 := u8_ne hln.1 rfl
        have n2 : ¬ (c.toNat : Int) = 13 := u8_ne hln.2 rfl
        have m1 : ¬ c.toNat = 10 := by omega
        have m2 : ¬ c.toNat = 13 := by omega
        by_cases hoc : 48 ≤ c.toNat ∧ c.toNat ≤ 55
        · have he : esc (s.drop k) = some ([UInt8.ofNat (octN 2 (c.toNat - 48) (s.drop (k + 1))).1], 1 + (octN 2 (c.toNat - 48) (s.drop (k + 1))).2) := by rw [hd]; simp [esc, hl, hln, hoc]
          have e1 : IntKind.u8.wrap ((c.toNat : Int) - 48) = ((c.toNat - 48 : Nat) : Int) := by
            rw [wrap_u8 (by omega) (by have := c.toNat_lt; omega)]; omega
          have e2 : IntKind.i64.wrap ((c.toNat - 48 : Nat) : Int) = ((c.toNat - 48 : Nat) : Int) := wrap64' (by omega) (by omega)
          rw [he]
          simp [go_sem, RO.run, NO.run, hm', hlk, cellEqK, n1, n2, m1, m2, hoc, show (48 : Int) ≤ c.toNat by omega, show (c.toNat : Int) ≤ 55 by omega, e1, e2]
          refine (octal_loop H (q := q) (s := s) (out := out) (d := d) hs 2 0 (c.toNat - 48) (k + 1) _ s2 (by omega) (by omega) (by omega) (by omega) (by omega) y2 b2 (by simp [go_sem]) (by simp [go_sem]) (by simp [go_sem])).mono ?_
          generalize octN 2 (c.toNat - 48) (s.drop (k + 1)) = oc
          rintro x e' s3 ⟨rfl, x3, q3, g0, g7, hle⟩
          have e3 : IntKind.u8.wrap ((oc.1 : Nat) : Int) = ((UInt8.ofNat oc.1).toNat : Int) := by
            simp only [IntKind.wrap, IntKind.signed, IntKind.bits, UInt8.toNat_ofNat']
            simp
          obtain ⟨w, r2, hw⟩ := q3.push x3 (by omega) (UInt8.ofNat oc.1)
          simp only [← e3] at hw
          simp [go_sem, RO.run, NO.run, g0, g7, r2, reps]
          refine hw.mono ?_
          rintro v4 s4 ⟨a4, h', w4, x4, q4⟩
          simp [go_sem, WO.run, a4, w4]
          exact ⟨x4.dropGe hx.nx, by rw [← Nat.add_assoc]; exact q4.dropLoc x4.wf⟩
        · have he : esc (s.drop k) = some ([c], 1) := by rw [hd]; simp [esc, hl, hln, hoc]
          rw [he]
          obtain ⟨w, r2, hw⟩ := hp c
          by_cases hlo : 48 ≤ c.toNat
          · have hhi : ¬ c.toNat ≤ 55 := fun h => hoc ⟨hlo, h⟩
            simp [go_sem, RO.run, NO.run, hm', hlk, cellEqK, n1, n2, m1, m2, hlo, hhi, show (48 : Int) ≤ c.toNat by omega, show ¬ (c.toNat : Int) ≤ 55 by omega, r2, reps]
            refine hw.mono ?_
            rintro v3 s3 ⟨a3, h', w3, x3, q3⟩
            simp [go_sem, WO.run, a3, w3]
            exact ⟨x3.dropGe hx.nx, q3.dropLoc x3.wf⟩
          · simp [go_sem, RO.run, NO.run, hm', hlk, cellEqK, n1, n2, m1, m2, hlo, show ¬ (48 : Int) ≤ c.toNat by omega, r2, reps]
            refine hw.mono ?_
            rintro v3 s3 ⟨a3, h', w3, x3, q3⟩
            simp [go_sem, WO.run, a3, w3]
            exact ⟨x3.dropGe hx.nx, q3.dropLoc x3.wf⟩
end Go.Ev

/- Unquote told. -/
namespace Go.Ev
open Go
set_option linter.unusedSimpArgs false
set_option linter.unusedSectionVars false
set_option linter.unusedVariables false

variable {T : Tab} {st : St}

theorem octN_used : ∀ (k n : Nat) (r : List UInt8), (octN k n r).2 ≤ r.length
  | 0, _, _ => by simp [octN]
  | k + 1, n, [] => by simp [octN]
  | k + 1, n, c :: r => by
    simp only [octN]
    split
    · have := octN_used k (8 * n + (c.toNat - 48)) r
      simp only [List.length_cons]; omega
    · simp
theorem lineN_used (c : UInt8) (r : List UInt8) : lineN c r ≤ r.length := by
  unfold lineN
  split
  · rename_i h
    cases r with
    | nil => simp at h
    | cons => simp
  · omega
theorem esc_used {r o : List UInt8} {n : Nat} (h : esc r = some (o, n)) : 1 ≤ n ∧ n ≤ r.length ∧ o.length ≤ n := by
  cases r with
  | nil => cases h
  | cons c r =>
    simp only [esc, Option.some.injEq] at h
    have h1 := lineN_used c r
    have h2 := octN_used 2 (c.toNat - 48) r
    split at h
    · injection h with a b; subst a; subst b; simp
    · split at h
      · injection h with a b; subst a; subst b; simp; omega
      · split at h
        · injection h with a b; subst a; subst b; simp; omega
        · injection h with a b; subst a; subst b; simp
theorem unq_left : ∀ {f d : Nat} {r out o l : List UInt8}, unq f d r out = some (o, l) → l.length + 1 ≤ r.length
  | 0, _, _, _, _, _, h => by cases h
  | f + 1, d, [], _, _, _, h => by cases h
  | f + 1, d, c :: r, out, o, l, h => by
    simp only [unq] at h
    split at h
    · split at h
      · cases h
      · have := unq_left h
        simp only [List.length_drop, List.length_cons] at this ⊢
        omega
    · split at h
      · have := unq_left h
        simp only [List.length_cons] at this ⊢; omega
      · split at h
        · split at h
          · injection h with h; injection h with h1 h2; subst h2; simp
          · have := unq_left h
            simp only [List.length_cons] at this ⊢; omega
        · split at h
          · have := unq_left h
            simp only [List.length_drop, List.length_cons] at this ⊢; omega
          · have := unq_left h
            simp only [List.length_cons] at this ⊢; omega

theorem run_loop_q (H : B.H_lex_quoted_run T) {st0 : St} {q : Nat} {s : List UInt8} (hs : s.length < 1000000000000) : ∀ (f d k : Nat) (out : List UInt8) (e : Env) (st1 : St), s.length + 1 ≤ k + f → k ≤ s.length → 1 ≤ d → d ≤ k + 1 → out.length ≤ k → Ext st0 st1 → QAt st0 st1 q s k out d → eget e 0 = .ptr q 0 →
    Res (run T (.loop B.lex_quoted_run_l0) e st1) fun x e' s' => Ext st0 s' ∧ match unq f d (s.drop k) out with
      | none => x = .ret ∧ eget e' 2 = .bool false
      | some (o, r) => x = .exit 0 ∧ QAt st0 s' q s (s.length - r.length) o 0 := by
  intro f
  induction f with
  | zero => intro d k out e st1 h1 h2; omega
  | succ f ih =>
    intro d k out e st1 hf hk hd1 hdk ho hx b g0
    obtain ⟨b1, w, b2, b4, b5⟩ := id b
    have r3 : rdCell st1.h q 3 = some (.int .i64 d) := by simp [rdCell, b2]
    have hd0 : (0 : Int) < d := by omega
    have hd0' : 0 < d := by omega
    rw [run_loop]
    simp [B.lex_quoted_run_l0, go_sem, g0, RO.run, r3, hd0, hd0']
    refine (next_res H.lex_quoted_next hx hs hk b).mono ?_
    rintro v1 s1 ⟨x1, ⟨hc, rfl, q1⟩ | ⟨c, hc, rfl, q1⟩⟩
    · have hd : s.drop k = [] := by rw [List.drop_eq_nil_iff]; exact List.getElem?_eq_none_iff.1 hc
      simp [go_sem, hd, unq, x1]
    · have hkl : k < s.length := by
        rcases Nat.lt_or_ge k s.length with h | h
        · exact h
        · rw [List.getElem?_eq_none h] at hc; cases hc
      obtain ⟨c', hc', hd⟩ := idx_some hkl
      rw [hc] at hc'; cases hc'
      by_cases h92 : c = 92
      · subst h92
        simp [go_sem]
        refine (escape_res H.lex_quoted_escape x1 hs (by omega) (by omega) q1).mono ?_
        rintro v2 s2 ⟨x2, hv2⟩
        cases hes : esc (s.drop (k + 1)) with
        | none =>
          rw [hes] at hv2
          subst hv2
          simp [go_sem, hd, unq, hes, x2]
        | some p =>
          obtain ⟨o, n⟩ := p
          rw [hes] at hv2
          obtain ⟨rfl, q2⟩ := hv2
          obtain ⟨u1, u2, u3⟩ := esc_used hes
          simp only [List.length_drop] at u2
          simp [go_sem]
          refine (ih d (k + 1 + n) (out ++ o) _ s2 (by omega) (by omega) hd1 (by omega) (by simp; omega) x2 q2 (by simp [go_sem])).mono ?_
          rintro x e' s' ⟨y1, y2⟩
          refine ⟨y1, ?_⟩
          rw [hd]
          simpa [unq, hes, List.drop_drop] using y2
      · have n1 : ¬ (c.toNat : Int) = 92 := u8_ne h92 rfl
        have m1 : ¬ c.toNat = 92 := by omega
        obtain ⟨p1, u, p2, p4, p5⟩ := id q1
        have r3' : rdCell s1.h q 3 = some (.int .i64 d) := by simp [rdCell, p2]
        have step : ∀ (d' : Nat) (c' : UInt8) (k' : Nat) (s2 : St) (e' : Env) (st2 : St), unq (f + 1) d (s.drop k) out = unq f d' (s.drop k') (out ++ [c']) → k + 1 ≤ k' → k' ≤ s.length → 1 ≤ d' → d' ≤ k + 2 → Ext st0 st2 → QAt st0 st2 q s k' (out ++ [c']) d' → eget e' 0 = .ptr q 0 →
            Res (run T (.loop B.lex_quoted_run_l0) e' st2) fun x e' s' => Ext st0 s' ∧ match unq (f + 1) d (s.drop k) out with
              | none => x = .ret ∧ eget e' 2 = .bool false
              | some (o, r) => x = .exit 0 ∧ QAt st0 s' q s (s.length - r.length) o 0 := by
          intro d' c' k' s2 e' st2 he h1 h2 h3 h3' h4 h5 h6
          rw [he]
          exact ih d' k' (out ++ [c']) e' st2 (by omega) h2 h3 (by omega) (by simp; omega) h4 h5 h6
        by_cases h40 : c = 40
        · subst h40
          have e5 : IntKind.i64.wrap ((d : Int) + 1) = ((d + 1 : Nat) : Int) := wrap64' (by omega) (by omega)
          have hw3 : wrCells s1.h q 3 [.int .i64 ((d + 1 : Nat) : Int)] = some (hset s1.h q (.cells 164 false [.str s, .int .i64 (k + 1 : Nat), u, .int .i64 (d + 1 : Nat)])) := wr_cells p2 rfl (by simp)
          obtain ⟨y1, y2⟩ := QAt.put (k' := k + 1) (d' := ((d + 1 : Nat) : Int)) x1 p1 p2 p4 p5
          obtain ⟨z, z1, z2⟩ := y2.push y1 (by omega) 40
          have hun : unq (f + 1) d (s.drop k) out = unq f (d + 1) (s.drop (k + 1)) (out ++ [40]) := by rw [hd]; simp [unq]
          obtain ⟨D, hD⟩ : ∃ D, D = d + 1 := ⟨_, rfl⟩
          obtain ⟨k2, hk2⟩ : ∃ k2, k2 = k + 1 := ⟨_, rfl⟩
          rw [← hD] at e5 hw3 y1 y2 z1 z2 hun
          rw [← hk2] at hw3 y1 y2 z1 z2 hun
          generalize hU : unq (f + 1) d (s.drop k) out = U at step ⊢
          simp [go_sem, RO.run, WO.run, NO.run, r3', e5, hw3, z1, reps]
          refine z2.mono ?_
          rintro v4 s4 ⟨a4, h', w4, x4, q4⟩
          simp [go_sem, WO.run, a4, w4]
          exact step D 40 k2 s1 _ _ (hU.symm.trans hun) (by omega) (by omega) (by omega) (by omega) x4 q4 (by simp [go_sem])
        have n2 : ¬ (c.toNat : Int) = 40 := u8_ne h40 rfl
        have m2 : ¬ c.toNat = 40 := by omega
        by_cases h41 : c = 41
        · subst h41
          have e5 : IntKind.i64.wrap ((d : Int) - 1) = ((d - 1 : Nat) : Int) := by rw [wrap64' (by omega) (by omega)]; omega
          have hw3 : wrCells s1.h q 3 [.int .i64 ((d - 1 : Nat) : Int)] = some (hset s1.h q (.cells 164 false [.str s, .int .i64 (k + 1 : Nat), u, .int .i64 (d - 1 : Nat)])) := wr_cells p2 rfl (by simp)
          obtain ⟨y1, y2⟩ := QAt.put (k' := k + 1) (d' := ((d - 1 : Nat) : Int)) x1 p1 p2 p4 p5
          have r3'' : rdCell (hset s1.h q (.cells 164 false [.str s, .int .i64 (k + 1 : Nat), u, .int .i64 (d - 1 : Nat)])) q 3 = some (.int .i64 (d - 1 : Nat)) := by simp [rdCell, hget_hset_self p2]
          obtain ⟨z, z1, z2⟩ := y2.push y1 (by omega) 41
          by_cases hdd : d = 1
          · subst hdd
            have hd0 : eget e 0 = .ptr q 0 := g0
            have r0 : rdCell (hset s1.h q (.cells 164 false [.str s, .int .i64 (k + 1 : Nat), u, .int .i64 (1 - 1 : Nat)])) q 3 = some (.int .i64 0) := r3''
            have hun : unq (f + 1) 1 (s.drop k) out = some (out, s.drop (k + 1)) := by rw [hd]; simp [unq]
            have hlen : s.length - (s.drop (k + 1)).length = k + 1 := by rw [List.length_drop]; omega
            rw [hun]
            simp only [hlen]
            have hc0 : ((1 - 1 : Nat) : Int) = 0 := rfl
            obtain ⟨k2, hk2⟩ : ∃ k2, k2 = k + 1 := ⟨_, rfl⟩
            rw [← hk2] at hw3 y1 y2 r0 ⊢
            rw [hc0] at hw3 y1 y2 r0 e5
            have r3s : rdCell s1.h q 3 = some (.int .i64 1) := r3'
            have e50 : IntKind.i64.wrap 0 = 0 := rfl
            simp [go_sem, RO.run, WO.run, NO.run, r3s, e5, e50, hw3, r0, reps]
            rw [run_loop]
            simp [B.lex_quoted_run_l0, go_sem, RO.run, r0]
            exact ⟨y1, y2⟩
          · have hun : unq (f + 1) d (s.drop k) out = unq f (d - 1) (s.drop (k + 1)) (out ++ [41]) := by rw [hd]; simp [unq, hdd]
            obtain ⟨D, hD⟩ : ∃ D, D = d - 1 := ⟨_, rfl⟩
            obtain ⟨k2, hk2⟩ : ∃ k2, k2 = k + 1 := ⟨_, rfl⟩
            rw [← hD] at e5 hw3 y1 y2 z1 z2 hun r3''
            rw [← hk2] at hw3 y1 y2 z1 z2 hun r3''
            have hD0 : ¬ (D : Int) = 0 := by omega
            have hD0' : ¬ D = 0 := by omega
            generalize hU : unq (f + 1) d (s.drop k) out = U at step ⊢
            simp [go_sem, RO.run, WO.run, NO.run, r3', e5, hw3, r3'', hD0, hD0', z1, reps]
            refine z2.mono ?_
            rintro v4 s4 ⟨a4, h', w4, x4, q4⟩
            simp [go_sem, WO.run, a4, w4]
            exact step D 41 k2 s1 _ _ (hU.symm.trans hun) (by omega) (by omega) (by omega) (by omega) x4 q4 (by simp [go_sem])
        have n3 : ¬ (c.toNat : Int) = 41 := u8_ne h41 rfl
        have m3 : ¬ c.toNat = 41 := by omega
        by_cases hln : c = 10 ∨ c = 13
        · have hun : unq (f + 1) d (s.drop k) out = unq f d (s.drop (k + 1 + lineN c (s.drop (k + 1)))) (out ++ [10]) := by rw [hd]; simp [unq, h92, h40, h41, hln, List.drop_drop]
          have hll := line_res H.lex_quoted_line x1 hs (by omega) c q1
          have hlu := lineN_used c (s.drop (k + 1))
          rw [List.length_drop] at hlu
          generalize hU : unq (f + 1) d (s.drop k) out = U at step ⊢
          have hcn : (c.toNat : Int) = 10 ∨ (c.toNat : Int) = 13 := by rcases hln with rfl | rfl <;> simp
          obtain ⟨n, hn⟩ : ∃ n : Int, n = c.toNat := ⟨_, rfl⟩
          generalize lineN c (s.drop (k + 1)) = L at hll hun hlu
          have tail : ∀ (s2 : St), Ext st0 s2 → QAt st0 s2 q s (k + 1 + L) out d → ∃ v, rdCell s2.h q 2 = some v ∧ CRes (aappend 5 1 1 ⟨(s2.nx, .cells 5 false [.int .u8 10]) :: s2.h, s2.nx + 1⟩ v (.slice s2.nx 0 1 (.known 1))) fun v' s' => acells v' = [v'] ∧ ∃ h', wrCells s'.h q 2 [v'] = some h' ∧ Ext st0 ⟨h', s'.nx⟩ ∧ QAt st0 ⟨h', s'.nx⟩ q s (k + 1 + L) (out ++ [10]) d := fun s2 x2 q2 => q2.push x2 (by omega) 10
          rw [← hn] at hcn hll
          rcases hcn with rfl | rfl
          · simp [go_sem, ← hn]
            refine hll.mono ?_
            rintro v2 s2 ⟨x2, q2⟩
            obtain ⟨z, z1, z2⟩ := tail s2 x2 q2
            simp [go_sem, RO.run, WO.run, NO.run, z1, reps]
            refine z2.mono ?_
            rintro v4 s4 ⟨a4, h', w4, x4, q4⟩
            simp [go_sem, WO.run, a4, w4]
            exact step d 10 _ s1 _ _ (hU.symm.trans hun) (by omega) (by omega) (by omega) (by omega) x4 q4 (by simp [go_sem])
          · simp [go_sem, ← hn]
            refine hll.mono ?_
            rintro v2 s2 ⟨x2, q2⟩
            obtain ⟨z, z1, z2⟩ := tail s2 x2 q2
            simp [go_sem, RO.run, WO.run, NO.run, z1, reps]
            refine z2.mono ?_
            rintro v4 s4 ⟨a4, h', w4, x4, q4⟩
            simp [go_sem, WO.run, a4, w4]
            exact step d 10 _ s1 _ _ (hU.symm.trans hun) (by omega) (by omega) (by omega) (by omega) x4 q4 (by simp [go_sem])
        · have hun : unq (f + 1) d (s.drop k) out = unq f d (s.drop (k + 1)) (out ++ [c]) := by rw [hd]; simp [unq, h92, h40, h41, hln]
          simp only [not_or] at hln
          have n4 : ¬ (c.toNat : Int) = 10 := u8_ne hln.1 rfl
          have n5 : ¬ (c.toNat : Int) = 13 := u8_ne hln.2 rfl
          have m4 : ¬ c.toNat = 10 := by omega
          have m5 : ¬ c.toNat = 13 := by omega
          obtain ⟨z, z1, z2⟩ := q1.push x1 (by omega) c
          generalize hU : unq (f + 1) d (s.drop k) out = U at step ⊢
          simp [go_sem, RO.run, WO.run, NO.run, n1, n2, n3, n4, n5, m1, m2, m3, m4, m5, z1, reps]
          refine z2.mono ?_
          rintro v4 s4 ⟨a4, h', w4, x4, q4⟩
          simp [go_sem, WO.run, a4, w4]
          exact step d c _ s1 _ _ (hU.symm.trans hun) (by omega) (by omega) (by omega) (by omega) x4 q4 (by simp [go_sem])

theorem run_res (H : B.H_lex_quoted_run T) {st0 : St} (hx : Ext st0 st) {q k : Nat} {s out : List UInt8} {d : Int} (hs : s.length < 1000000000000) (hk : k ≤ s.length) (ho : out.length ≤ k) (b : QAt st0 st q s k out d) {f : Nat} (hf : s.length + 1 ≤ k + f) :
    CRes (call T (.fn 87 [] []) [.ptr q 0] st) fun v s' => Ext st0 s' ∧ match unq f 1 (s.drop k) out with
      | none => v = .bool false
      | some (o, r) => v = .bool true ∧ QAt st0 s' q s (s.length - r.length) o 0 := by
  refine call_res H.e H.f rfl ?_
  obtain ⟨b1, w, b2, b4, b5⟩ := id b
  have hw3 : wrCells st.h q 3 [.int .i64 1] = some (hset st.h q (.cells 164 false [.str s, .int .i64 k, w, .int .i64 1])) := wr_cells b2 rfl (by simp)
  obtain ⟨y1, y2⟩ := QAt.put (k' := k) (d' := ((1 : Nat) : Int)) hx b1 b2 b4 b5
  simp [B.lex_quoted_run, go_sem, RO.run, WO.run, hw3]
  refine (run_loop_q H hs f 1 k out _ _ hf hk (by omega) (by omega) ho y1 y2 (by simp [go_sem])).mono ?_
  generalize unq f 1 (s.drop k) out = U
  rintro x e s' ⟨x1, h⟩
  cases U with
  | none =>
    obtain ⟨rfl, g⟩ := h
    simp [go_sem, g]
    exact x1.dropGe hx.nx
  | some p =>
    obtain ⟨o, r⟩ := p
    obtain ⟨rfl, q2⟩ := h
    simp [go_sem]
    exact ⟨x1.dropGe hx.nx, q2.dropLoc x1.wf⟩

/-- What Unquote answers. -/
def unquoteT (s : List UInt8) : List UInt8 × Nat × Int :=
  match s with
  | c :: r => if c = 40 then match unq s.length 1 r [] with
      | none => ([], 0, 5)
      | some (o, l) => if 1000 < o.length then ([], 0, 26) else (o, s.length - l.length, 0)
    else ([], 0, 5)
  | [] => ([], 0, 5)
def toU (t : List UInt8 × Nat × Int) : AV := .tuple [.str t.1, .int .i64 (t.2.1 : Int), .int .i64 t.2.2]

theorem unquote_tells (H : B.H_lex_Unquote T) (hwf : st.Wf) {s : List UInt8} (hs : s.length < 1000000000000) : Tells T st (.fn 69 [] []) [.str s] (toU (unquoteT s)) := by
  refine tells_of H.e H.f rfl ?_
  have hx := Ext.new hwf (.cells 164 false [.str s, .int .i64 0, .nilslice, .int .i64 0])
  have hb : QAt st ⟨(st.nx, .cells 164 false [.str s, .int .i64 0, .nilslice, .int .i64 0]) :: st.h, st.nx + 1⟩ st.nx s 0 [] 0 := ⟨Nat.le_refl _, .nilslice, by simp [hget_cons], .nil _ _, by simp [AV.nms]⟩
  simp [B.lex_Unquote, go_sem, NO.run]
  refine (next_res H.lex_quoted_next hx hs (Nat.zero_le _) hb).mono ?_
  rintro v1 s1 ⟨x1, ⟨hc, rfl, q1⟩ | ⟨c, hc, rfl, q1⟩⟩
  · have : s = [] := by
      cases s with
      | nil => rfl
      | cons => simp at hc
    subst this
    simp [go_sem, toU, unquoteT, x1]
  · obtain ⟨r, rfl⟩ : ∃ r, s = c :: r := by
      cases s with
      | nil => simp at hc
      | cons a r => simp at hc; exact ⟨r, by rw [hc]⟩
    by_cases h40 : c = 40
    · subst h40
      have hr := run_res H.lex_quoted_run x1 hs (by simp) (by simp) q1 (f := r.length + 1) (by simp; omega)
      have ht : unquoteT (40 :: r) = match unq (r.length + 1) 1 r [] with
        | none => ([], 0, 5)
        | some (o, l) => if 1000 < o.length then ([], 0, 26) else (o, (40 :: r).length - l.length, 0) := by simp [unquoteT]
      rw [ht]
      rw [show (40 :: r : List UInt8).drop (0 + 1) = r from rfl] at hr
      simp [go_sem]
      refine hr.mono ?_
      cases hu : unq (r.length + 1) 1 r [] with
      | none =>
        rintro v2 s2 ⟨x2, rfl⟩
        simp [go_sem, toU, x2]
      | some p =>
        obtain ⟨o, l⟩ := p
        rintro v2 s2 ⟨x2, rfl, q2⟩
        obtain ⟨b1, w, b2, b4, b5⟩ := id q2
        have r2 : rdCell s2.h st.nx 2 = some w := by simp [rdCell, b2]
        have r1 : rdCell s2.h st.nx 1 = some (.int .i64 (((40 :: r).length - l.length : Nat) : Int)) := by simp [rdCell, b2]
        have hsrc := b4.1.rd.src
        have hu8 := toBytes_u8s o
        generalize hN : (40 :: r).length - l.length = N at r1 ⊢
        have hN' : r.length + 1 - l.length = N := hN
        obtain ⟨⟨m, hsl⟩, b6, b7⟩ := b4
        have xa := fun n => x2.trans (Ext.aside x2.wf n)
        rcases hsl with ⟨k1, k2, k3⟩ | ⟨k1, k2, k3⟩ | ⟨ty', k1, k2, k3⟩
        · subst k1
          have : o = [] := List.length_eq_zero_iff.1 k3
          subst this
          simp [go_sem, RO.run, r2, r1, hsrc, hu8, toU, xa, hN']
        · subst k1
          have hrd : rdCells s2.h m 0 o.length = some (u8s o) := by
            simp [rdCells, k2, u8s_len]
            exact List.take_of_length_le (by rw [u8s_len]; exact Nat.le_refl _)
          by_cases hlong : 1000 < o.length
          · simp [go_sem, RO.run, r2, r1, hsrc, hu8, toU, xa, hlong, show (1000 : Int) < o.length by omega, x2]
          · simp [go_sem, RO.run, r2, r1, hrd, hu8, toU, xa, hN', hlong, show ¬ (1000 : Int) < o.length by omega]
        · exact absurd k1 (b7 _ _ _ _)
    · have n1 : ¬ (c.toNat : Int) = 40 := u8_ne h40 rfl
      have m1 : ¬ c.toNat = 40 := by omega
      simp [go_sem, n1, m1, toU, unquoteT, h40, x1]
end Go.Ev

/- Valid tokens; Check. -/
namespace Go.Ev
open Go
set_option linter.unusedSimpArgs false
set_option linter.unusedSectionVars false
set_option linter.unusedVariables false

variable {T : Tab} {st : St}

def isT (k n : Int) (t : Tk) : Bool := decide (t.2.2 = 0) && (decide (t.1 = k) && decide (t.2.1 = n))

theorem tok_eq {a b a' b' : Int} {c c' : List UInt8} : cellsEqK [.i .i64, .i .i64, .s] [.int .i64 a, .int .i64 b, .str c] [.int .i64 a', .int .i64 b', .str c'] = some (decide (a = a') && (decide (b = b') && (c == c'))) := by
  simp only [cellsEqK, cellEqK, seq8_eq]
  by_cases h1 : a = a' <;> by_cases h2 : b = b' <;> cases h3 : (c == c') <;> simp [h1, h2]

theorem number73_tells (H : B.H_chaselaw03_number T) (hwf : st.Wf) {s : List UInt8} (hs : s.length < 4000000000000000000) {k n : Int} : Tells T st (.fn 73 [] []) [.str s, .int .i64 k, .int .i64 n] (.bool (isT k n (numT s))) := by
  refine tells_of H.e H.f rfl ?_
  simp [B.chaselaw03_number, go_sem]
  refine (number_tells H.lex_Number hwf hs).use fun s1 hs1 => ?_
  obtain ⟨t, ht⟩ : ∃ t, t = numT s := ⟨_, rfl⟩
  rw [← ht]
  have x3 := hs1.trans (Ext.new hs1.wf (.cells 134 true [.int .i64 t.1, .int .i64 t.2.1, .str []]))
  by_cases h : t.2.2 = 0
  · simp [go_sem, toA, tokA, tokC, NO.run, WO.run, RO.run, wr_tok, rd_tok, h, isT, tok_eq, x3]
  · simp [go_sem, toA, tokA, tokC, NO.run, WO.run, RO.run, wr_tok, rd_tok, h, isT, tok_eq, x3]

theorem is110_tells (H : B.H_real_Is T) (hwf : st.Wf) {n : Int} : Tells T st (.fn 110 [] []) [.int .i64 n] (.bool (decide (-2147483648 ≤ n) && decide (n ≤ 2147483648))) := by
  refine tells_of H.e H.f rfl ?_
  by_cases h : -2147483648 ≤ n
  · simp [B.real_Is, go_sem, h, Ext.refl hwf]
  · simp [B.real_Is, go_sem, h, Ext.refl hwf]

def namedT (k : Int) (t : List UInt8) : Bool := decide (t.length ≤ 100) && regAll t && (decide (k ≠ 3) || (!(t == []) && decide ((numT t).2.2 = 5)))

theorem named_tells (H : B.H_lex_named T) (hwf : st.Wf) {k n : Int} {t : List UInt8} (hs : t.length < 4000000000000000000) : Tells T st (.fn 111 [] []) [.agg [.int .i64 k, .int .i64 n, .str t]] (.bool (namedT k t)) := by
  refine tells_of H.e H.f rfl ?_
  have hx := Ext.new hwf (.cells 134 true [.int .i64 k, .int .i64 n, .str t])
  have g : hget ((st.nx, AObj.cells 134 true [.int .i64 k, .int .i64 n, .str t]) :: st.h) st.nx = some (.cells 134 true [.int .i64 k, .int .i64 n, .str t]) := by simp [hget_cons]
  by_cases hl : 100 < t.length
  · have hn : namedT k t = false := by simp [namedT]; omega
    simp [B.lex_named, go_sem, NO.run, WO.run, RO.run, rdCell, hget_cons, hl, show (100 : Int) < t.length by omega, hn, hx]
  · simp [B.lex_named, go_sem, NO.run, WO.run, RO.run, rdCell, hget_cons, hl, show ¬ (100 : Int) < t.length by omega]
    refine (lexregular_tells H.lex_regular hx.wf (s := t) (by omega)).use fun s1 hs1 => ?_
    have e1 := hx.trans hs1
    have g1 := hs1.get hx.wf g
    cases hr : regAll t with
    | false => simp [go_sem, hr, namedT, e1]
    | true =>
      by_cases h3 : k = 3
      · subst h3
        simp [go_sem, RO.run, rdCell, g1]
        refine (number_tells H.lex_Number e1.wf hs).use fun s2 hs2 => ?_
        have e2 := e1.trans hs2
        have g2 := hs2.get e1.wf g1
        have hnm : namedT 3 t = (!(t == []) && decide ((numT t).2.2 = 5)) := by simp [namedT, hr]; omega
        rw [hnm]
        obtain ⟨u, hu⟩ : ∃ u, u = numT t := ⟨_, rfl⟩
        rw [← hu]
        have x3 := e2.trans (Ext.new e2.wf (.cells 134 true [.int .i64 u.1, .int .i64 u.2.1, .str []]))
        have hne : ¬ s2.nx = st.nx := by have := e2.wf.lt _ _ g2; omega
        by_cases hz : t = []
        · subst hz
          simp [go_sem, toA, tokA, tokC, NO.run, WO.run, RO.run, wr_tok, rdCell, hget_cons, hne, g2, seq8_eq, x3]
        · have hq : t.isEmpty = false := by cases t with | nil => exact absurd rfl hz | cons => rfl
          simp [go_sem, toA, tokA, tokC, NO.run, WO.run, RO.run, wr_tok, rdCell, hget_cons, hne, g2, seq8_eq, hq, x3]
      · have hnm : namedT k t = true := by simp [namedT, hr, h3]; omega
        simp [go_sem, RO.run, rdCell, g1, h3, hnm, e1]

/-- One of the names that are no words. -/
def markT (k n : Int) (t : List UInt8) : Bool := decide (k = 3) && (decide (n = 0) && ((t == [91]) || (t == [93]) || (t == [60, 60]) || (t == [62, 62])))
/-- Is a token valid? -/
def rightT (k n : Int) (t : List UInt8) : Bool :=
  if k = 1 then decide (-2147483648 ≤ n) && decide (n ≤ 2147483647) && (t == [])
  else if k = 2 then decide (-2147483648 ≤ n) && decide (n ≤ 2147483648) && (t == [])
  else if k = 3 ∨ k = 4 ∨ k = 5 then markT k n t || (decide (n = 0) && namedT k t)
  else if k = 6 then decide (n = 0) && decide (t.length ≤ 1000)
  else (decide (k = 7) || decide (k = 8)) && (decide (n = 0) && (t == []))

theorem right_loop {m : Nat} {k n : Int} {t : List UInt8} {e : Env} (hrd : rdCells st.h m 0 3 = some [.int .i64 k, .int .i64 n, .str t]) (g1 : eget e 1 = .ptr m 0) (g36 : eget e 36 = .agg [.str [91], .str [93], .str [60, 60], .str [62, 62]]) (g37 : eget e 37 = .int .i64 0) :
    Res (run T (.loop B.lex_right_l0) e st) (fun x e s => s = st ∧ ((x = .exit 1 ∧ eget e 1 = .ptr m 0 ∧ markT k n t = false) ∨ (x = .ret ∧ eget e 2 = .bool true ∧ markT k n t = true))) := by
  have w0 : IntKind.i64.wrap 1 = 1 := rfl
  have w1 : IntKind.i64.wrap 2 = 2 := rfl
  have w2 : IntKind.i64.wrap 3 = 3 := rfl
  have w3 : IntKind.i64.wrap 4 = 4 := rfl
  by_cases hk : k = 3
  · by_cases hn : n = 0
    · subst hk; subst hn
      rw [run_loop]
      by_cases h0 : t = [91]
      · simp [B.lex_right_l0, go_sem, RO.run, hrd, tok_eq, g1, g36, g37, h0, markT]
      simp [B.lex_right_l0, go_sem, RO.run, hrd, tok_eq, g1, g36, g37, h0]
      rw [run_loop]
      by_cases h1 : t = [93]
      · simp [B.lex_right_l0, go_sem, RO.run, hrd, tok_eq, w0, h1, markT]
      simp [B.lex_right_l0, go_sem, RO.run, hrd, tok_eq, w0, h1]
      rw [run_loop]
      by_cases h2 : t = [60, 60]
      · simp [B.lex_right_l0, go_sem, RO.run, hrd, tok_eq, w1, h2, markT]
      simp [B.lex_right_l0, go_sem, RO.run, hrd, tok_eq, w1, h2]
      rw [run_loop]
      by_cases h3 : t = [62, 62]
      · simp [B.lex_right_l0, go_sem, RO.run, hrd, tok_eq, w2, h3, markT]
      simp [B.lex_right_l0, go_sem, RO.run, hrd, tok_eq, w2, h3]
      rw [run_loop]
      simp [B.lex_right_l0, go_sem, RO.run, w3, markT, h0, h1, h2, h3]
    · have hm : markT k n t = false := by simp [markT, hn]
      rw [hm]
      rw [run_loop]
      simp [B.lex_right_l0, go_sem, RO.run, hrd, tok_eq, g1, g36, g37, hn]
      rw [run_loop]
      simp [B.lex_right_l0, go_sem, RO.run, hrd, tok_eq, w0, hn]
      rw [run_loop]
      simp [B.lex_right_l0, go_sem, RO.run, hrd, tok_eq, w1, hn]
      rw [run_loop]
      simp [B.lex_right_l0, go_sem, RO.run, hrd, tok_eq, w2, hn]
      rw [run_loop]
      simp [B.lex_right_l0, go_sem, RO.run, w3]
  · have hm : markT k n t = false := by simp [markT, hk]
    rw [hm]
    rw [run_loop]
    simp [B.lex_right_l0, go_sem, RO.run, hrd, tok_eq, g1, g36, g37, hk]
    rw [run_loop]
    simp [B.lex_right_l0, go_sem, RO.run, hrd, tok_eq, w0, hk]
    rw [run_loop]
    simp [B.lex_right_l0, go_sem, RO.run, hrd, tok_eq, w1, hk]
    rw [run_loop]
    simp [B.lex_right_l0, go_sem, RO.run, hrd, tok_eq, w2, hk]
    rw [run_loop]
    simp [B.lex_right_l0, go_sem, RO.run, w3]

theorem right_tells (H : B.H_lex_right T) (hwf : st.Wf) {k n : Int} {t : List UInt8} (hs : t.length < 4000000000000000000) : Tells T st (.fn 93 [] []) [.agg [.int .i64 k, .int .i64 n, .str t]] (.bool (rightT k n t)) := by
  refine tells_of H.e H.f rfl ?_
  have hx := Ext.new hwf (.cells 134 true [.int .i64 k, .int .i64 n, .str t])
  have g : hget ((st.nx, AObj.cells 134 true [.int .i64 k, .int .i64 n, .str t]) :: st.h) st.nx = some (.cells 134 true [.int .i64 k, .int .i64 n, .str t]) := by simp [hget_cons]
  by_cases h1 : k = 1
  · subst h1
    by_cases a1 : -2147483648 ≤ n
    · by_cases a2 : n ≤ 2147483647
      · simp [B.lex_right, go_sem, NO.run, WO.run, RO.run, rdCell, hget_cons, a1, a2, rightT, seq8_eq, hx]
      · simp [B.lex_right, go_sem, NO.run, WO.run, RO.run, rdCell, hget_cons, a1, a2, rightT, seq8_eq, hx]
    · simp [B.lex_right, go_sem, NO.run, WO.run, RO.run, rdCell, hget_cons, a1, rightT, seq8_eq, hx]
  by_cases h2 : k = 2
  · subst h2
    simp [B.lex_right, go_sem, NO.run, WO.run, RO.run, rdCell, hget_cons]
    refine (is110_tells H.real_Is hx.wf).use fun s1 hs1 => ?_
    have e1 := hx.trans hs1
    have g1 := hs1.get hx.wf g
    by_cases a1 : -2147483648 ≤ n ∧ n ≤ 2147483648
    · simp [go_sem, RO.run, rdCell, g1, a1, rightT, seq8_eq, e1]
    · have : (decide (-2147483648 ≤ n) && decide (n ≤ 2147483648)) = false := by simpa using a1
      simp [go_sem, RO.run, rdCell, g1, this, rightT, seq8_eq, e1]
  by_cases h3 : k = 3 ∨ k = 4 ∨ k = 5
  · have hr3 : rdCells ((st.nx, AObj.cells 134 true [.int .i64 k, .int .i64 n, .str t]) :: st.h) st.nx 0 3 = some [.int .i64 k, .int .i64 n, .str t] := rd_tok ..
    have lp := fun e a b c => right_loop (T := T) (e := e) (st := ⟨(st.nx, AObj.cells 134 true [.int .i64 k, .int .i64 n, .str t]) :: st.h, st.nx + 1⟩) hr3 a b c
    have hrt : rightT k n t = (markT k n t || (decide (n = 0) && namedT k t)) := by
      unfold rightT
      rw [if_neg (by omega), if_neg (by omega), if_pos h3]
    rw [hrt]
    generalize markT k n t = BB at lp ⊢
    rcases h3 with rfl | rfl | rfl
    · simp [B.lex_right, go_sem, NO.run, WO.run, RO.run, rdCell, hget_cons]
      refine (lp _ (by simp [go_sem]) (by simp [go_sem]) (by simp [go_sem])).mono ?_
      rintro x e' s' ⟨rfl, ⟨rfl, k1, k2⟩ | ⟨rfl, k1, k2⟩⟩
      · by_cases a1 : n = 0
        · subst a1
          simp [go_sem, k1, RO.run, rdCell, hget_cons, rd_tok]
          refine (named_tells H.lex_named hx.wf hs).use fun s1 hs1 => ?_
          simp [go_sem, k2, hx.trans hs1]
        · simp [go_sem, k1, RO.run, rdCell, hget_cons, rd_tok, a1, k2, hx]
      · simp [go_sem, k1, k2, hx]
    · simp [B.lex_right, go_sem, NO.run, WO.run, RO.run, rdCell, hget_cons]
      refine (lp _ (by simp [go_sem]) (by simp [go_sem]) (by simp [go_sem])).mono ?_
      rintro x e' s' ⟨rfl, ⟨rfl, k1, k2⟩ | ⟨rfl, k1, k2⟩⟩
      · by_cases a1 : n = 0
        · subst a1
          simp [go_sem, k1, RO.run, rdCell, hget_cons, rd_tok]
          refine (named_tells H.lex_named hx.wf hs).use fun s1 hs1 => ?_
          simp [go_sem, k2, hx.trans hs1]
        · simp [go_sem, k1, RO.run, rdCell, hget_cons, rd_tok, a1, k2, hx]
      · simp [go_sem, k1, k2, hx]
    · simp [B.lex_right, go_sem, NO.run, WO.run, RO.run, rdCell, hget_cons]
      refine (lp _ (by simp [go_sem]) (by simp [go_sem]) (by simp [go_sem])).mono ?_
      rintro x e' s' ⟨rfl, ⟨rfl, k1, k2⟩ | ⟨rfl, k1, k2⟩⟩
      · by_cases a1 : n = 0
        · subst a1
          simp [go_sem, k1, RO.run, rdCell, hget_cons, rd_tok]
          refine (named_tells H.lex_named hx.wf hs).use fun s1 hs1 => ?_
          simp [go_sem, k2, hx.trans hs1]
        · simp [go_sem, k1, RO.run, rdCell, hget_cons, rd_tok, a1, k2, hx]
      · simp [go_sem, k1, k2, hx]
  simp only [not_or] at h3
  by_cases h6 : k = 6
  · subst h6
    by_cases a1 : n = 0
    · subst a1
      simp [B.lex_right, go_sem, NO.run, WO.run, RO.run, rdCell, hget_cons, rightT, hx]
      omega
    · simp [B.lex_right, go_sem, NO.run, WO.run, RO.run, rdCell, hget_cons, a1, rightT, hx]
  · by_cases h7 : k = 7
    · subst h7
      by_cases hb : n = 0 ∧ t = []
      · obtain ⟨rfl, rfl⟩ := hb
        simp [B.lex_right, go_sem, NO.run, WO.run, RO.run, rdCell, hget_cons, rightT, rd_tok, tok_eq, hx]
      · have hb1 : (decide (n = 0) && t.isEmpty) = false := by simpa using hb
        have hb2 : (n = 0 → ¬ t = []) := fun a b => hb ⟨a, b⟩
        simp [B.lex_right, go_sem, NO.run, WO.run, RO.run, rdCell, hget_cons, rightT, rd_tok, tok_eq, hb1, hx]
    · simp [B.lex_right, go_sem, NO.run, WO.run, RO.run, rdCell, hget_cons, rightT, rd_tok, tok_eq, h1, h2, h3, h6, h7, hx]

theorem check_tells (H : B.H_lex_Check T) (hwf : st.Wf) {k n : Int} {t : List UInt8} (hs : t.length < 4000000000000000000) : Tells T st (.fn 74 [] []) [.agg [.int .i64 k, .int .i64 n, .str t]] (.int .i64 (if rightT k n t = true then 0 else 130)) := by
  refine tells_of H.e H.f rfl ?_
  have hx := Ext.new hwf (.cells 134 true [.int .i64 k, .int .i64 n, .str t])
  simp [B.lex_Check, go_sem, NO.run, WO.run, RO.run, rd_tok]
  refine (right_tells H.lex_right hx.wf hs).use fun s1 hs1 => ?_
  have e1 := hx.trans hs1
  cases hr : rightT k n t <;> simp [go_sem, hr, e1]

end Go.Ev

/- The chapter's examples. -/
namespace Go.Ev
open Go
set_option linter.unusedSimpArgs false
set_option linter.unusedSectionVars false
set_option linter.unusedVariables false

variable {T : Tab} {st : St}

theorem ex1 : numT [45, 48, 48, 55] = (1, -7, 0) := by kernel_rfl
theorem ex2 : numT [49, 54, 35, 70, 102] = (1, 255, 0) := by kernel_rfl
theorem ex3 : numT [51, 46] = (2, 196608, 0) := by kernel_rfl
theorem ex4 : numT [49, 101, 50] = (2, 6553600, 0) := by kernel_rfl
theorem ex5 : (numT [50, 35, 49, 48, 50]).2.2 = 5 := by kernel_rfl
theorem ex6 : (numT [43]).2.2 = 5 := by kernel_rfl
theorem ex7 : (numT [51, 55, 35, 49]).2.2 = 5 := by kernel_rfl
theorem ex8 : (numT [50, 49, 52, 55, 52, 56, 51, 54, 52, 56]).2.2 = 26 := by kernel_rfl
theorem ex9 : (numT [51, 54, 35, 122, 122, 122, 122, 122, 122]).2.2 = 26 := by kernel_rfl
theorem ex10 : (numT [52, 48, 48, 48, 48, 46, 53]).2.2 = 26 := by kernel_rfl
theorem ex11 : wordT [97, 98, 99] = (3, 0, [97, 98, 99], 0) := by kernel_rfl
theorem ex12 : wordT [49, 97] = (3, 0, [49, 97], 0) := by kernel_rfl
theorem ex13 : wordT [49, 50] = (1, 12, [], 0) := by kernel_rfl
theorem ex14 : wordT [97, 40, 98] = (0, 0, [], 5) := by kernel_rfl
theorem ex15 : unquoteT [40, 97, 40, 98, 41, 92, 99, 92, 48, 54, 51, 92, 110, 41, 120] = ([97, 40, 98, 41, 99, 51, 10], 14, 0) := by kernel_rfl
theorem ex16 : unquoteT [40, 92, 49, 50, 51, 52, 41] = ([83, 52], 7, 0) := by kernel_rfl
theorem ex17 : unquoteT [40, 40, 41] = ([], 0, 5) := by kernel_rfl
theorem ex18 : quoteS [97, 40, 92, 10, 200] = [40, 97, 92, 40, 92, 92, 92, 48, 49, 50, 92, 51, 49, 48, 41] := by kernel_rfl
theorem ex19 : rightT 3 0 [49, 50] = false := by kernel_rfl
theorem ex20 : rightT 4 0 [] = true := by kernel_rfl
theorem ex21 : rightT 3 0 [60, 60] = true := by kernel_rfl

theorem num_call {s : List UInt8} (H : B.H_lex_Number T) (hwf : st.Wf) {K N E : Int} (h : numT s = (K, N, E)) (hs : s.length < 4000000000000000000) : Tells T st (.fn 63 [] []) [.str s] (tokA K N [] E) := by
  have := number_tells H hwf hs
  rw [h] at this
  exact this

theorem works_round (H : B.H_chaselaw03_works T) (hwf : st.Wf) {e : Env} {s : List UInt8} {E : Int} (hs : s.length < 4000000000000000000) (h : (numT s).2.2 = E) :
    Round T 36 37 38 [B.p 39 (.extr 0 38), B.p 40 (.extr 1 38), B.p 2 (.mov 39), B.p 3 (.mov 40)] [35, 1] B.chaselaw03_works_l0 e st (.str s) (.int .i64 E) := by
  unfold Round
  simp [go_sem, B.chaselaw03_works_l0]
  refine (number_tells H.lex_Number hwf hs).use fun s1 x1 => ?_
  simp [go_sem, toA, tokA, tokC, NO.run, WO.run, wr_tok, h]
  refine ⟨?_, (x1.trans (Ext.new x1.wf _)).kept hwf⟩
  intro r hr
  simp at hr
  rcases hr with rfl | rfl <;> simp [go_sem]

theorem tok2 {s : St} {n : Nat} {k m : Int} {t : List UInt8} {l : Bool} (g : hget s.h n = some (.cells 134 l [.int .i64 k, .int .i64 m, .str t])) : rdCell s.h n 1 = some (.int .i64 m) ∧ rdCell s.h n 2 = some (.str t) := by simp [rdCell, g]

theorem word_call {s : List UInt8} (H : B.H_lex_Word T) (hwf : st.Wf) {K N E : Int} {t : List UInt8} (h : wordT s = (K, N, t, E)) (hs : s.length < 4000000000000000000) : Tells T st (.fn 65 [] []) [.str s] (tokA K N t E) := by
  have := word_tells H hwf hs
  rw [h] at this
  exact this
theorem unq_call {s : List UInt8} (H : B.H_lex_Unquote T) (hwf : st.Wf) {N : Nat} {E : Int} {t : List UInt8} (h : unquoteT s = (t, N, E)) (hs : s.length < 1000000000000) : Tells T st (.fn 69 [] []) [.str s] (.tuple [.str t, .int .i64 (N : Int), .int .i64 E]) := by
  have := unquote_tells H hwf hs
  rw [h] at this
  exact this
theorem quo_call {s t : List UInt8} (H : B.H_lex_Quote T) (hwf : st.Wf) (h : quoteS s = t) (hs : s.length < 1000000000000) : Tells T st (.fn 71 [] []) [.str s] (.str t) := by
  have := quote_tells H hwf hs
  rw [h] at this
  exact this
theorem chk_call {k n : Int} {t : List UInt8} {b : Bool} (H : B.H_lex_Check T) (hwf : st.Wf) (h : rightT k n t = b) (hs : t.length < 4000000000000000000) : Tells T st (.fn 74 [] []) [.agg [.int .i64 k, .int .i64 n, .str t]] (.int .i64 (if b = true then 0 else 130)) := by
  have := check_tells H hwf (k := k) (n := n) hs
  rw [h] at this
  exact this

theorem works_tells (H : B.H_chaselaw03_works T) (hwf : st.Wf) : Tells T st (.fn 62 [] []) [] (.bool true) := by
  refine tells_of H.e H.f rfl ?_
  simp [B.chaselaw03_works, go_sem]
  refine (number73_tells H.chaselaw03_number hwf (by simp)).use fun s1 x1 => ?_
  simp [go_sem, ex1, isT]
  refine (number73_tells H.chaselaw03_number x1.wf (by simp)).use fun s2 x2' => ?_
  have x2 := x1.trans x2'
  simp [go_sem, ex2, isT]
  refine (number73_tells H.chaselaw03_number x2.wf (by simp)).use fun s3 x3' => ?_
  have x3 := x2.trans x3'
  simp [go_sem, ex3, isT]
  refine (number73_tells H.chaselaw03_number x3.wf (by simp)).use fun s4 x4' => ?_
  have x4 := x3.trans x4'
  simp [go_sem, ex4, isT]
  refine res_rangeMap ?_
  simp [go_sem, NO.run, WO.run, hget_cons, hset_cons, mins, cellEqK, seq8]
  generalize hm : AObj.map _ = M
  have y5 : Ext st ⟨hdel ((s4.nx, M) :: s4.h) s4.nx, s4.nx + 1 + 1⟩ := by
    have a := x4.trans (Ext.new x4.wf M)
    have b := a.trans (Ext.aside a.wf 1)
    exact b.frm (Frm.hdel b.wf s4.nx) (by simpa using x4.nx)
  clear hm
  generalize hS : (⟨hdel ((s4.nx, M) :: s4.h) s4.nx, s4.nx + 1 + 1⟩ : St) = s5 at y5 ⊢
  clear hS
  refine ⟨?_, ?_⟩
  · rintro a b (⟨rfl, rfl⟩ | ⟨rfl, rfl⟩ | ⟨rfl, rfl⟩ | ⟨rfl, rfl⟩ | ⟨rfl, rfl⟩ | ⟨rfl, rfl⟩)
    · exact works_round H y5.wf (by simp) ex5
    · exact works_round H y5.wf (by simp) ex6
    · exact works_round H y5.wf (by simp) ex7
    · exact works_round H y5.wf (by simp) ex8
    · exact works_round H y5.wf (by simp) ex9
    · exact works_round H y5.wf (by simp) ex10
  refine (word_call H.lex_Word y5.wf ex11 (by simp)).use fun s6 x6' => ?_
  have x6 := y5.trans x6'
  simp [go_sem, tokA, tokC, NO.run, WO.run, wr_tok]
  have x7 := x6.trans (Ext.new x6.wf (.cells 134 true [.int .i64 3, .int .i64 0, .str [97, 98, 99]]))
  have g7 : hget ((s6.nx, AObj.cells 134 true [.int .i64 3, .int .i64 0, .str [97, 98, 99]]) :: s6.h) s6.nx = some (.cells 134 true [.int .i64 3, .int .i64 0, .str [97, 98, 99]]) := by simp [hget_cons]
  generalize hS : (⟨(s6.nx, AObj.cells 134 true [.int .i64 3, .int .i64 0, .str [97, 98, 99]]) :: s6.h, s6.nx + 1⟩ : St) = s7 at x7 ⊢
  rw [show (s6.nx, AObj.cells 134 true [.int .i64 3, .int .i64 0, .str [97, 98, 99]]) :: s6.h = s7.h by rw [← hS]] at g7
  clear hS
  generalize s6.nx = n6 at g7 ⊢
  refine (word_call H.lex_Word x7.wf ex12 (by simp)).use fun s8 x8' => ?_
  have x8 := x7.trans x8'
  have g8 := x8'.get x7.wf g7
  simp [go_sem, tokA, tokC, NO.run, WO.run, wr_tok]
  have z8 := Ext.new x8.wf (.cells 134 true [.int .i64 3, .int .i64 0, .str [49, 97]])
  have x9 := x8.trans z8
  have g9 := z8.get x8.wf g8
  have f9 : hget ((s8.nx, AObj.cells 134 true [.int .i64 3, .int .i64 0, .str [49, 97]]) :: s8.h) s8.nx = some (.cells 134 true [.int .i64 3, .int .i64 0, .str [49, 97]]) := by simp [hget_cons]
  generalize hS : (⟨(s8.nx, AObj.cells 134 true [.int .i64 3, .int .i64 0, .str [49, 97]]) :: s8.h, s8.nx + 1⟩ : St) = s9 at x9 g9 ⊢
  rw [show (s8.nx, AObj.cells 134 true [.int .i64 3, .int .i64 0, .str [49, 97]]) :: s8.h = s9.h by rw [← hS]] at f9
  clear hS
  clear z8
  generalize s8.nx = n8 at f9 ⊢
  refine (word_call H.lex_Word x9.wf ex13 (by simp)).use fun s10 x10' => ?_
  have x10 := x9.trans x10'
  have g10 := x10'.get x9.wf g9
  have f10 := x10'.get x9.wf f9
  simp [go_sem, tokA, tokC, NO.run, WO.run, wr_tok]
  have z10 := Ext.new x10.wf (.cells 134 true [.int .i64 1, .int .i64 12, .str []])
  have x11 := x10.trans z10
  have g11 := z10.get x10.wf g10
  have f11 := z10.get x10.wf f10
  have e11 : hget ((s10.nx, AObj.cells 134 true [.int .i64 1, .int .i64 12, .str []]) :: s10.h) s10.nx = some (.cells 134 true [.int .i64 1, .int .i64 12, .str []]) := by simp [hget_cons]
  generalize hS : (⟨(s10.nx, AObj.cells 134 true [.int .i64 1, .int .i64 12, .str []]) :: s10.h, s10.nx + 1⟩ : St) = s11 at x11 g11 f11 ⊢
  rw [show (s10.nx, AObj.cells 134 true [.int .i64 1, .int .i64 12, .str []]) :: s10.h = s11.h by rw [← hS]] at e11
  clear hS
  clear z10
  generalize s10.nx = n10 at e11 ⊢
  refine (word_call H.lex_Word x11.wf ex14 (by simp)).use fun s12 x12' => ?_
  have x12 := x11.trans x12'
  have g12 := x12'.get x11.wf g11
  have f12 := x12'.get x11.wf f11
  have e12 := x12'.get x11.wf e11
  simp [go_sem, tokA, tokC, NO.run, WO.run, wr_tok]
  have z12 := Ext.new x12.wf (.cells 134 true [.int .i64 0, .int .i64 0, .str []])
  have x13 := x12.trans z12
  have g13 := z12.get x12.wf g12
  have f13 := z12.get x12.wf f12
  have e13 := z12.get x12.wf e12
  generalize hS : (⟨(s12.nx, AObj.cells 134 true [.int .i64 0, .int .i64 0, .str []]) :: s12.h, s12.nx + 1⟩ : St) = s13 at x13 g13 f13 e13 ⊢
  clear hS
  clear z12
  refine (unq_call H.lex_Unquote x13.wf ex15 (by simp)).use fun s14 x14' => ?_
  have x14 := x13.trans x14'
  have g14 := x14'.get x13.wf g13
  have f14 := x14'.get x13.wf f13
  have e14 := x14'.get x13.wf e13
  simp [go_sem]
  refine (unq_call H.lex_Unquote x14.wf ex16 (by simp)).use fun s15 x15' => ?_
  have x15 := x14.trans x15'
  have g15 := x15'.get x14.wf g14
  have f15 := x15'.get x14.wf f14
  have e15 := x15'.get x14.wf e14
  simp [go_sem]
  refine (unq_call H.lex_Unquote x15.wf ex17 (by simp)).use fun s16 x16' => ?_
  have x16 := x15.trans x16'
  have g16 := (tok2 (x16'.get x15.wf g15)).2
  have f16 := (tok2 (x16'.get x15.wf f15)).2
  have e16 := (tok2 (x16'.get x15.wf e15)).1
  simp [go_sem, RO.run, g16, f16, e16, seq8_eq]
  refine (quo_call H.lex_Quote x16.wf ex18 (by simp)).use fun s17 x17' => ?_
  have x17 := x16.trans x17'
  simp [go_sem, seq8_eq]
  refine (chk_call H.lex_Check x17.wf ex19 (by simp)).use fun s18 x18' => ?_
  have x18 := x17.trans x18'
  simp [go_sem]
  refine (chk_call H.lex_Check x18.wf ex20 (by simp)).use fun s19 x19' => ?_
  have x19 := x18.trans x19'
  simp [go_sem]
  refine (chk_call H.lex_Check x19.wf ex21 (by simp)).use fun s20 x20' => ?_
  simp [go_sem]
  exact x19.trans x20'
end Go.Ev
