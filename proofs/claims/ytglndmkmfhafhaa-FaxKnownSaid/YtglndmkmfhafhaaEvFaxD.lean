/- The reader of bits of the program fax. -/
import Derived.Test.YtglndmkmfhafhaaEvFaxC
import Derived.Test.YtglndmkmfhafhaaEvR
namespace Go.Ev
open Go
set_option linter.unusedSimpArgs false
set_option linter.unusedVariables false

variable {T : Tab} {st : St}

theorem Frm.upTo {S : List Nat} {h : Heap} {n m : Nat} (a : Frm S st ⟨h, n⟩) (hm : n ≤ m) : Frm S st ⟨h, m⟩ :=
  ⟨Nat.le_trans a.nx hm, ⟨fun k o ho => Nat.lt_of_lt_of_le (a.wf.lt k o ho) hm, a.wf.nd⟩, a.keep⟩
theorem Ext.upTo {h : Heap} {n m : Nat} (a : Ext st ⟨h, n⟩) (hm : n ≤ m) : Ext st ⟨h, m⟩ :=
  ⟨Nat.le_trans a.nx hm, ⟨fun k o ho => Nat.lt_of_lt_of_le (a.wf.lt k o ho) hm, a.wf.nd⟩, a.keep⟩

/-- A bit is read: what it is, and where the reader stands then (and whether it has come to the end). -/
def rb (bits : List Bool) (p : Nat × Bool) : Bool × (Nat × Bool) := if p.1 < bits.length then (bits.getD p.1 false, (p.1 + 1, p.2)) else (false, (p.1, true))
def numF (bits : List Bool) : Nat → Nat → Nat × Bool → Nat × (Nat × Bool)
  | 0, n, p => (n, p)
  | k + 1, n, p => numF bits k (2 * n + (rb bits p).1.toNat) (rb bits p).2
/-- Bits 0 are counted, at most f of them. -/
def zF (bits : List Bool) : Nat → Nat → Nat × Bool → Nat × (Nat × Bool)
  | 0, k, p => (k, p)
  | f + 1, k, p => if (rb bits p).1 = false ∧ (rb bits p).2.2 = false then zF bits f (k + 1) (rb bits p).2 else (k, (rb bits p).2)
def runF (bits : List Bool) (p : Nat × Bool) : Nat × (Nat × Bool) :=
  if (zF bits (bits.length + 2) 0 p).1 > 8 then (129, (zF bits (bits.length + 2) 0 p).2)
  else ((numF bits (zF bits (bits.length + 2) 0 p).1 1 (zF bits (bits.length + 2) 0 p).2).1 - 1, (numF bits (zF bits (bits.length + 2) 0 p).1 1 (zF bits (bits.length + 2) 0 p).2).2)

/-- The cells of a reader. -/
def rdrC (s : List UInt8) (p : Nat × Bool) : List AV := [.str s, .int .i64 (p.1 : Nat), .bool p.2]

theorem rb_le {bits : List Bool} {p : Nat × Bool} (h : p.1 ≤ bits.length) : (rb bits p).2.1 ≤ bits.length ∧ p.1 ≤ (rb bits p).2.1 := by
  unfold rb
  split
  · simp only; omega
  · simp only; omega

theorem bit_call (H : B.HasFax T) (hwf : st.Wf) {s : List UInt8} {p : Nat × Bool} {r ty : Nat} {loc : Bool} (hs : s.length ≤ 100000) (hp : p.1 ≤ 8 * s.length) (hr : hget st.h r = some (.cells ty loc (rdrC s p))) :
    CRes (call T (.fn 24 [] []) [.ptr r 0] st) fun v s' => v = .int .i64 ((rb (strBits s) p).1.toNat : Nat) ∧ hget s'.h r = some (.cells ty loc (rdrC s (rb (strBits s) p).2)) ∧ Frm [r] st s' := by
  refine call_res H.e24 H.f24 rfl ?_
  obtain ⟨a, bad⟩ := p
  simp only [rdrC] at hr hp ⊢
  have hr0 : rdCell st.h r 0 = some (.str s) := by simp [rdCell, hr]
  have hr1 : rdCell st.h r 1 = some (.int .i64 a) := by simp [rdCell, hr]
  have hlt := hwf.lt _ _ hr
  unfold rb
  rw [strBits_length]
  by_cases ha : a < 8 * s.length
  · rw [if_pos ha]
    have ha' : ¬ (8 * (s.length : Int) ≤ a) := by omega
    have hwr := wr_cells (o := 1) (v := .int .i64 ((a : Int) + 1)) hr rfl (by simp)
    simp only [List.set] at hwr
    obtain ⟨h', hh⟩ : ∃ h', h' = hset st.h r (.cells ty loc [.str s, .int .i64 ((a : Int) + 1), .bool bad]) := ⟨_, rfl⟩
    rw [← hh] at hwr
    have hg' : hget h' r = some (.cells ty loc [.str s, .int .i64 ((a : Int) + 1), .bool bad]) := by rw [hh, hget_hset hr, if_pos rfl]
    have hq0 : rdCell h' r 0 = some (.str s) := by simp [rdCell, hg']
    have hq1 : rdCell h' r 1 = some (.int .i64 ((a : Int) + 1)) := by simp [rdCell, hg']
    obtain ⟨b, hb⟩ : ∃ b, s[a / 8]? = some b := ⟨s[a / 8]'(by omega), by simp⟩
    have hbb : s[a / 8]'(by omega) = b := by rw [List.getElem?_eq_getElem (by omega)] at hb; exact Option.some.inj hb
    have hbit := strBits_get s a b hb
    have hq : (a : Int).tdiv 8 = (a / 8 : Nat) := by rw [Int.tdiv_eq_ediv_of_nonneg (by omega)]; omega
    have hd : (a : Int).tmod 8 = (a % 8 : Nat) := by rw [Int.tmod_eq_emod_of_nonneg (by omega)]; omega
    have hq' : ((a : Int) / 8).toNat = a / 8 := by omega
    have hb8 := b.toNat_lt
    have hsh := shr_bit (num := b.toNat) (i := 7 - a % 8) (by omega) (by omega)
    have h7 : ((7 - a % 8 : Nat) : Int) = 7 - (a : Int) % 8 := by omega
    rw [h7] at hsh
    have h70 : 0 ≤ 7 - (a : Int) % 8 := by omega
    have h71 : 0 ≤ (a : Int) / 8 := by omega
    have hsub : (a : Int) + 1 - 1 = a := by omega
    have hget1 : (strBits s).getD a false = b.toNat.testBit (7 - a % 8) := by rw [List.getD_eq_getElem?_getD, hbit]; rfl
    rw [hget1]
    have hF : Frm [r] st ⟨h', st.nx⟩ := by rw [hh]; exact Frm.set hwf hr
    simp (disch := omega) [B.fax_reader_bit, go_sem, hr0, hr1, hq0, hq1, ha', wrap64, hwr, hq, hd, hb, hq', hbb, h70, h71, hsub, if_neg, hsh]
    refine ⟨?_, ?_⟩
    · rw [hget_dropLoc_lt hlt]; exact hg'
    · exact (hF.upTo (by omega)).dropLoc
  · rw [if_neg ha]
    have ha' : 8 * (s.length : Int) ≤ a := by omega
    have hwr := wr_cells (o := 2) (v := .bool true) hr rfl (by simp)
    simp only [List.set] at hwr
    obtain ⟨h', hh⟩ : ∃ h', h' = hset st.h r (.cells ty loc [.str s, .int .i64 (a : Int), .bool true]) := ⟨_, rfl⟩
    rw [← hh] at hwr
    have hg' : hget h' r = some (.cells ty loc [.str s, .int .i64 (a : Int), .bool true]) := by rw [hh, hget_hset hr, if_pos rfl]
    have hF : Frm [r] st ⟨h', st.nx⟩ := by rw [hh]; exact Frm.set hwf hr
    simp (disch := omega) [B.fax_reader_bit, go_sem, hr0, hr1, ha', wrap64, hwr]
    refine ⟨?_, ?_⟩
    · rw [hget_dropLoc_lt hlt]; exact hg'
    · exact (hF.upTo (by omega)).dropLoc

/-- A call that reads on: what it answers, and where the reader stands then. -/
def Reads (T : Tab) (st : St) (f : AV) (args : List AV) (r ty : Nat) (loc : Bool) (s : List UInt8) (v : AV) (p : Nat × Bool) : Prop :=
  CRes (call T f args st) fun v' s' => v' = v ∧ hget s'.h r = some (.cells ty loc (rdrC s p)) ∧ Frm [r] st s'
theorem Reads.use {f : AV} {args : List AV} {r ty : Nat} {loc : Bool} {s : List UInt8} {v : AV} {p : Nat × Bool} {Q : AV → St → Prop} (h : Reads T st f args r ty loc s v p)
    (hq : ∀ s', hget s'.h r = some (.cells ty loc (rdrC s p)) → Frm [r] st s' → Q v s') : CRes (call T f args st) Q :=
  CRes.mono h (by rintro v' s' ⟨rfl, h1, h2⟩; exact hq s' h1 h2)
theorem reads_of {k : Nat} {mf : MFun} (hen : T.en k = none) (hf : T.fn k = some mf) {args : List AV} (hl : args.length = mf.nargs) {r ty : Nat} {loc : Bool} {s : List UInt8} {v : AV} {p : Nat × Bool} (hlt : r < st.nx)
    (hr : Res (run T mf.body (argEnv 0 args) st) fun x e s' => (x = .norm ∨ x = .ret) ∧ fresults s'.h e mf.results = some v ∧ hget s'.h r = some (.cells ty loc (rdrC s p)) ∧ Frm [r] st s') :
    Reads T st (.fn k [] []) args r ty loc s v p := by
  refine call_res hen hf (by simpa using hl) ?_
  simp only [List.nil_append, List.append_nil]
  refine hr.mono fun x e s' ⟨h1, h2, h3, h4⟩ => ⟨h1, v, h2, rfl, ?_, h4.dropLoc⟩
  rw [hget_dropLoc_lt hlt]; exact h3

theorem number_loop (H : B.HasFax T) {s : List UInt8} {r ty long : Nat} {loc : Bool} (hs : s.length ≤ 100000) : ∀ (m i n : Nat) (p : Nat × Bool) (st : St) (e : Env), i + m = long → long ≤ 20 → n < 2 ^ (i + 1) → p.1 ≤ 8 * s.length → st.Wf → hget st.h r = some (.cells ty loc (rdrC s p)) →
    eget e 0 = .ptr r 0 → eget e 1 = .int .i64 n → eget e 7 = .int .i64 long → eget e 8 = .int .i64 i →
    Res (run T (.loop B.fax_reader_number_l0) e st) fun q e' s' => q = .exit 0 ∧ eget e' 1 = .int .i64 ((numF (strBits s) m n p).1 : Nat) ∧ hget s'.h r = some (.cells ty loc (rdrC s (numF (strBits s) m n p).2)) ∧ Frm [r] st s' := by
  intro m
  induction m with
  | zero =>
    intro i n p st e hi hl hn hp hwf hr g0 g1 g7 g8
    have hil : ¬ (i : Int) < long := by omega
    rw [run_loop]
    simp (disch := omega) [B.fax_reader_number_l0, go_sem, g0, g1, g7, g8, hil, numF]
    exact ⟨hr, .refl hwf _⟩
  | succ m ih =>
    intro i n p st e hi hl hn hp hwf hr g0 g1 g7 g8
    have hil : (i : Int) < long := by omega
    have hbig : (2 : Nat) ^ (i + 1) ≤ 2 ^ 20 := Nat.pow_le_pow_right (by omega) (by omega)
    have hle := rb_le (bits := strBits s) (p := p) (by rw [strBits_length]; exact hp)
    rw [strBits_length] at hle
    have t1 := bit_call (T := T) H hwf hs hp hr
    have hx1 : (rb (strBits s) p).1.toNat ≤ 1 := by cases (rb (strBits s) p).1 <;> decide
    have hpow : (2 : Nat) ^ (i + 1 + 1) = 2 ^ (i + 1) * 2 := Nat.pow_succ _ _
    rw [run_loop]
    simp only [numF]
    generalize rb (strBits s) p = q at *
    simp (disch := omega) [B.fax_reader_number_l0, go_sem, g0, g1, g7, g8, hil, wrap64]
    refine t1.mono ?_
    rintro v s1 ⟨rfl, hr1, hF1⟩
    simp (disch := omega) [go_sem, wrap64]
    refine (ih (i + 1) (2 * n + q.1.toNat) q.2 s1 _ (by omega) hl (by omega) hle.1 hF1.wf hr1 ?_ ?_ ?_ ?_).mono ?_
    · simp [go_sem]
    · simp [go_sem]
    · simp [go_sem]
    · simp [go_sem]
    rintro x e' s2 ⟨rfl, h1, h2, h3⟩
    exact ⟨rfl, h1, h2, hF1.trans h3 (by simp)⟩

theorem number_reads (H : B.HasFax T) (hwf : st.Wf) {s : List UInt8} {p : Nat × Bool} {r ty long : Nat} {loc : Bool} (hs : s.length ≤ 100000) (hp : p.1 ≤ 8 * s.length) (hl : long ≤ 20) (hr : hget st.h r = some (.cells ty loc (rdrC s p))) :
    Reads T st (.fn 57 [] []) [.ptr r 0, .int .i64 1, .int .i64 long] r ty loc s (.int .i64 ((numF (strBits s) long 1 p).1 : Nat)) (numF (strBits s) long 1 p).2 := by
  refine reads_of H.e57 H.f57 rfl (hwf.lt _ _ hr) ?_
  simp (disch := omega) [B.fax_reader_number, go_sem]
  refine (number_loop H (r := r) (long := long) hs long 0 1 p st _ (by omega) hl (by omega) hp hwf hr ?_ ?_ ?_ ?_).mono ?_
  · simp [go_sem]
  · simp [go_sem]
  · simp [go_sem]
  · simp [go_sem]
  rintro q e' s' ⟨rfl, h1, h2, h3⟩
  simp [go_sem, h1, h2, h3]

theorem rdrC_bad {h : Heap} {r ty : Nat} {loc : Bool} {s : List UInt8} {p : Nat × Bool} (hr : hget h r = some (.cells ty loc (rdrC s p))) : rdCell h r 2 = some (.bool p.2) := by simp [rdCell, hr, rdrC]

theorem zeros_loop (H : B.HasFax T) {s : List UInt8} {r ty : Nat} {loc : Bool} (hs : s.length ≤ 100000) : ∀ (f k : Nat) (p : Nat × Bool) (st : St) (e : Env), k + f = 8 → p.1 ≤ 8 * s.length → st.Wf → hget st.h r = some (.cells ty loc (rdrC s p)) →
    eget e 0 = .ptr r 0 → eget e 3 = .int .i64 k →
    Res (run T (.loop B.fax_reader_zeros_l0) e st) fun q e' s' => q = .exit 0 ∧ eget e' 3 = .int .i64 ((zF (strBits s) f k p).1 : Nat) ∧ hget s'.h r = some (.cells ty loc (rdrC s (zF (strBits s) f k p).2)) ∧ Frm [r] st s' := by
  intro f
  induction f with
  | zero =>
    intro k p st e hk hp hwf hr g0 g3
    have hk8 : ¬ (k : Int) < 8 := by omega
    rw [run_loop]
    simp (disch := omega) [B.fax_reader_zeros_l0, go_sem, g0, g3, hk8, zF]
    exact ⟨hr, .refl hwf _⟩
  | succ f ih =>
    intro k p st e hk hp hwf hr g0 g3
    have hk8 : (k : Int) < 8 := by omega
    have hle := rb_le (bits := strBits s) (p := p) (by rw [strBits_length]; exact hp)
    rw [strBits_length] at hle
    have t1 := bit_call (T := T) H hwf hs hp hr
    rw [run_loop]
    simp only [zF]
    generalize rb (strBits s) p = q at *
    simp (disch := omega) [B.fax_reader_zeros_l0, go_sem, g0, g3, hk8, wrap64]
    refine t1.mono ?_
    rintro v s1 ⟨rfl, hr1, hF1⟩
    have hbad := rdrC_bad hr1
    obtain ⟨x, a, bad⟩ := q
    simp only at hr1 hbad hle ⊢
    cases x with
    | true =>
      simp (disch := omega) [go_sem, wrap64, hr1, hF1]
    | false =>
      cases bad with
      | true => simp (disch := omega) [go_sem, wrap64, hbad, hr1, hF1]
      | false =>
        simp (disch := omega) [go_sem, wrap64, hbad]
        refine (ih (k + 1) (a, false) s1 _ (by omega) hle.1 hF1.wf hr1 ?_ ?_).mono ?_
        · simp [go_sem]
        · simp [go_sem]
        rintro x e' s2 ⟨rfl, h1, h2, h3⟩
        exact ⟨rfl, h1, h2, hF1.trans h3 (by simp)⟩

theorem zeros_reads (H : B.HasFax T) (hwf : st.Wf) {s : List UInt8} {p : Nat × Bool} {r ty : Nat} {loc : Bool} (hs : s.length ≤ 100000) (hp : p.1 ≤ 8 * s.length) (hr : hget st.h r = some (.cells ty loc (rdrC s p))) :
    Reads T st (.fn 36 [] []) [.ptr r 0] r ty loc s (.int .i64 ((zF (strBits s) 8 0 p).1 : Nat)) (zF (strBits s) 8 0 p).2 := by
  refine reads_of H.e36 H.f36 rfl (hwf.lt _ _ hr) ?_
  simp (disch := omega) [B.fax_reader_zeros, go_sem]
  refine (zeros_loop H (r := r) hs 8 0 p st _ (by omega) hp hwf hr ?_ ?_).mono ?_
  · simp [go_sem]
  · simp [go_sem]
  rintro q e' s' ⟨rfl, h1, h2, h3⟩
  simp [go_sem, h1, h2, h3]

theorem runz_loop (H : B.HasFax T) {s : List UInt8} {r ty : Nat} {loc : Bool} (hs : s.length ≤ 100000) : ∀ (f k : Nat) (p : Nat × Bool) (st : St) (e : Env), 8 * s.length < p.1 + f → k + f < 10000000 → p.1 ≤ 8 * s.length → st.Wf → hget st.h r = some (.cells ty loc (rdrC s p)) →
    eget e 0 = .ptr r 0 → eget e 3 = .int .i64 k →
    Res (run T (.loop B.fax_reader_run_l0) e st) fun q e' s' => q = .exit 0 ∧ eget e' 0 = .ptr r 0 ∧ eget e' 3 = .int .i64 ((zF (strBits s) f k p).1 : Nat) ∧ hget s'.h r = some (.cells ty loc (rdrC s (zF (strBits s) f k p).2)) ∧ Frm [r] st s' := by
  intro f
  induction f with
  | zero => intro k p st e hf hk hp; omega
  | succ f ih =>
    intro k p st e hf hk hp hwf hr g0 g3
    have hle := rb_le (bits := strBits s) (p := p) (by rw [strBits_length]; exact hp)
    have hnext : (rb (strBits s) p).2.2 = false → (rb (strBits s) p).2.1 = p.1 + 1 := by
      unfold rb
      split
      · intro; rfl
      · intro h; cases h
    rw [strBits_length] at hle
    have t1 := bit_call (T := T) H hwf hs hp hr
    rw [run_loop]
    simp only [zF]
    generalize rb (strBits s) p = q at *
    simp (disch := omega) [B.fax_reader_run_l0, go_sem, g0, g3, wrap64]
    refine t1.mono ?_
    rintro v s1 ⟨rfl, hr1, hF1⟩
    have hbad := rdrC_bad hr1
    obtain ⟨x, a, bad⟩ := q
    simp only at hr1 hbad hle hnext ⊢
    cases x with
    | true =>
      simp (disch := omega) [go_sem, wrap64, hr1, hF1]
    | false =>
      cases bad with
      | true => simp (disch := omega) [go_sem, wrap64, hbad, hr1, hF1]
      | false =>
        have hn := hnext rfl
        simp (disch := omega) [go_sem, wrap64, hbad]
        refine (ih (k + 1) (a, false) s1 _ (by simp only; omega) (by omega) hle.1 hF1.wf hr1 ?_ ?_).mono ?_
        · simp [go_sem]
        · simp [go_sem]
        rintro x e' s2 ⟨rfl, h0, h1, h2, h3⟩
        exact ⟨rfl, h0, h1, h2, hF1.trans h3 (by simp)⟩

theorem zF_le {bits : List Bool} : ∀ (f k : Nat) (p : Nat × Bool), p.1 ≤ bits.length → (zF bits f k p).2.1 ≤ bits.length ∧ p.1 ≤ (zF bits f k p).2.1
  | 0, k, p, h => ⟨h, Nat.le_refl _⟩
  | f + 1, k, p, h => by
    have h1 := rb_le h
    simp only [zF]
    split
    · have h2 := zF_le f (k + 1) (rb bits p).2 h1.1
      omega
    · exact h1
theorem numF_le {bits : List Bool} : ∀ (k n : Nat) (p : Nat × Bool), p.1 ≤ bits.length → (numF bits k n p).2.1 ≤ bits.length ∧ p.1 ≤ (numF bits k n p).2.1
  | 0, n, p, h => ⟨h, Nat.le_refl _⟩
  | k + 1, n, p, h => by
    have h1 := rb_le h
    simp only [numF]
    have h2 := numF_le k (2 * n + (rb bits p).1.toNat) (rb bits p).2 h1.1
    omega
theorem numF_lt {bits : List Bool} : ∀ (k n : Nat) (p : Nat × Bool), 1 ≤ n → 1 ≤ (numF bits k n p).1 ∧ (numF bits k n p).1 < (n + 1) * 2 ^ k
  | 0, n, p, h => by simp [numF]; omega
  | k + 1, n, p, h => by
    simp only [numF]
    have hx : (rb bits p).1.toNat ≤ 1 := by cases (rb bits p).1 <;> decide
    have h2 := numF_lt (bits := bits) k (2 * n + (rb bits p).1.toNat) (rb bits p).2 (by omega)
    refine ⟨h2.1, Nat.lt_of_lt_of_le h2.2 ?_⟩
    rw [Nat.pow_succ, Nat.mul_comm (2 ^ k) 2, ← Nat.mul_assoc]
    exact Nat.mul_le_mul_right _ (by omega)
theorem runF_le {bits : List Bool} {p : Nat × Bool} (h : p.1 ≤ bits.length) : (runF bits p).2.1 ≤ bits.length ∧ p.1 ≤ (runF bits p).2.1 ∧ (runF bits p).1 ≤ 600 := by
  have h1 := zF_le (bits := bits) (bits.length + 2) 0 p h
  unfold runF
  split
  · exact ⟨h1.1, h1.2, by omega⟩
  · rename_i h8
    have h2 := numF_le (bits := bits) (zF bits (bits.length + 2) 0 p).1 1 (zF bits (bits.length + 2) 0 p).2 h1.1
    have h3 := numF_lt (bits := bits) (zF bits (bits.length + 2) 0 p).1 1 (zF bits (bits.length + 2) 0 p).2 (by omega)
    have h4 : (2 : Nat) ^ (zF bits (bits.length + 2) 0 p).1 ≤ 2 ^ 8 := Nat.pow_le_pow_right (by omega) (by omega)
    simp only
    omega

theorem run_reads (H : B.HasFax T) (hwf : st.Wf) {s : List UInt8} {p : Nat × Bool} {r ty : Nat} {loc : Bool} (hs : s.length ≤ 100000) (hp : p.1 ≤ 8 * s.length) (hr : hget st.h r = some (.cells ty loc (rdrC s p))) :
    Reads T st (.fn 55 [] []) [.ptr r 0] r ty loc s (.int .i64 ((runF (strBits s) p).1 : Nat)) (runF (strBits s) p).2 := by
  refine reads_of H.e55 H.f55 rfl (hwf.lt _ _ hr) ?_
  have hbl := strBits_length s
  simp (disch := omega) [B.fax_reader_run, go_sem]
  refine (runz_loop H (r := r) hs ((strBits s).length + 2) 0 p st _ (by omega) (by omega) hp hwf hr ?_ ?_).mono ?_
  · simp [go_sem]
  · simp [go_sem]
  rintro q e' s1 ⟨rfl, h0, h1, h2, h3⟩
  have hle := zF_le (bits := strBits s) ((strBits s).length + 2) 0 p (by omega)
  unfold runF
  generalize zF (strBits s) ((strBits s).length + 2) 0 p = z at *
  by_cases h8 : z.1 > 8
  · have h8' : (8 : Int) < z.1 := by omega
    rw [if_pos h8]
    simp (disch := omega) [go_sem, h0, h1, h8', h2, h3]
  · have h8' : ¬ (8 : Int) < z.1 := by omega
    rw [if_neg h8]
    simp (disch := omega) [go_sem, h0, h1, h8']
    refine (number_reads H h3.wf hs (by omega) (by omega) h2).use fun s2 k1 k2 => ?_
    have hb := numF_lt (bits := strBits s) z.1 1 z.2 (by omega)
    have h4 : (2 : Nat) ^ z.1 ≤ 2 ^ 8 := Nat.pow_le_pow_right (by omega) (by omega)
    generalize numF (strBits s) z.1 1 z.2 = y at *
    have hsub : ((y.1 - 1 : Nat) : Int) = (y.1 : Int) - 1 := by omega
    simp (disch := omega) [go_sem, wrap64, k1, hsub]
    exact h3.trans k2 (by simp)

end Go.Ev

/- The filler of rows of the program fax. -/
namespace Go.Ev
open Go
set_option linter.unusedSimpArgs false
set_option linter.unusedVariables false

variable {T : Tab} {st : St}

def fillN (x : Bool) : Nat → List Bool → Nat → List Bool
  | 0, row, _ => row
  | k + 1, row, i => fillN x k (row.set i x) (i + 1)
/-- The pixels from i up to j get a color. -/
def fillL (row : List Bool) (x : Bool) (i j : Int) : List Bool := fillN x (j - i).toNat row i.toNat
theorem fillN_length (x : Bool) : ∀ (k : Nat) (row : List Bool) (i : Nat), (fillN x k row i).length = row.length
  | 0, _, _ => rfl
  | k + 1, row, i => by simp only [fillN]; rw [fillN_length x k]; simp
theorem fillL_length (row : List Bool) (x : Bool) (i j : Int) : (fillL row x i j).length = row.length := fillN_length _ _ _ _

theorem cc_set_row {row before : List Bool} {wide at' : Int} {black : Bool} {i : Nat} (x : Bool) (hi : i < row.length) :
    (coderCells row before wide at' black).set i (.bool x) = coderCells (row.set i x) before wide at' black := by
  simp only [coderCells]
  rw [List.set_append_left _ _ (by rw [bools_len]; omega), bools_set]

theorem fill_loop {before : List Bool} {w a to : Int} {x : Bool} {b c r tc : Nat} {lc : Bool} (hb : before.length = 128) (hto : to ≤ 128) (hbc : b ≠ c) : ∀ (k i : Nat) (row : List Bool) (st : St) (e : Env), (to - i).toNat = k → row.length = 128 → st.Wf →
    hget st.h b = some (.cells 73 true [.ptr c 0, .ptr r 0]) → hget st.h c = some (.cells tc lc (coderCells row before w a x)) → eget e 2 = .int .i64 to → eget e 3 = .ptr b 0 → eget e 6 = .int .i64 i →
    Res (run T (.loop B.fax_filler_fill_l0) e st) fun q e' s' => q = .exit 0 ∧ hget s'.h c = some (.cells tc lc (coderCells (fillN x k row i) before w a x)) ∧ Frm [c] st s' := by
  intro k
  induction k with
  | zero =>
    intro i row st e hk hr hwf hbx hc g2 g3 g6
    have hi : ¬ (i : Int) < to := by omega
    rw [run_loop]
    simp (disch := omega) [B.fax_filler_fill_l0, go_sem, g2, g3, g6, hi, fillN]
    exact ⟨hc, .refl hwf _⟩
  | succ k ih =>
    intro i row st e hk hr hwf hbx hc g2 g3 g6
    have hi : (i : Int) < to := by omega
    have hi2 : 0 ≤ (i : Int) ∧ (i : Int) < 128 := by omega
    have hb0 : rdCell st.h b 0 = some (.ptr c 0) := by simp [rdCell, hbx]
    have gk := cc_black (row := row) (before := before) (wide := w) (at' := a) (black := x) hr hb
    have hck : rdCell st.h c 258 = some (.bool x) := by simp [rdCell, hc, gk]
    have hwr := wr_cells (o := i) (v := .bool x) hc rfl (by rw [cc_len hr hb]; omega)
    rw [cc_set_row x (by omega)] at hwr
    have hS := Frm.set (o := .cells tc lc (coderCells (row.set i x) before w a x)) hwf hc
    rw [run_loop]
    simp only [fillN]
    simp (disch := omega) [B.fax_filler_fill_l0, go_sem, g2, g3, g6, hi, hi2, hb0, hck, hwr, wrap64]
    refine (ih (i + 1) (row.set i x) ⟨_, _⟩ _ (by omega) (by simp [hr]) (hS.upTo (Nat.le_add_right _ 13)).wf ?_ ?_ ?_ ?_ ?_).mono ?_
    · rw [hget_hset hc, if_neg (fun h => hbc h.symm)]; exact hbx
    · rw [hget_hset hc, if_pos rfl]
    · simp [go_sem]
    · simp [go_sem]
    · simp [go_sem]
    rintro q e' s' ⟨rfl, h1, h2⟩
    exact ⟨rfl, h1, (hS.upTo (Nat.le_add_right _ 13)).trans h2 (by simp)⟩

theorem fill_call (H : B.HasFax T) (hwf : st.Wf) {row before : List Bool} {w a : Int} {x : Bool} {c r tc : Nat} {lc : Bool} (hr : row.length = 128) (hb : before.length = 128) {from' to : Int} (hto : to ≤ 128) (hf0 : -1000 ≤ from') (hf1 : from' ≤ 1000)
    (hc : hget st.h c = some (.cells tc lc (coderCells row before w a x))) :
    CRes (call T (.fn 56 [] []) [.agg [.ptr c 0, .ptr r 0], .int .i64 from', .int .i64 to] st) fun v s => v = .tuple [] ∧ hget s.h c = some (.cells tc lc (coderCells (fillL row x (max from' 0) to) before w a x)) ∧ Frm [c] st s := by
  refine call_res H.e56 H.f56 rfl ?_
  have hlt := hwf.lt _ _ hc
  have hx := Ext.new hwf (.cells 73 true [.ptr c 0, .ptr r 0])
  have hmx : (if from' < 0 then 0 else from') = max from' 0 := by omega
  simp (disch := omega) [B.fax_filler_fill, go_sem, hmx]
  refine (fill_loop (b := st.nx) (c := c) (r := r) hb hto (by omega) (to - max from' 0).toNat (max from' 0).toNat row ⟨_, _⟩ _ (by omega) hr hx.wf (by simp [hget_cons]) (hx.get hwf hc) ?_ ?_ ?_).mono ?_
  · simp [go_sem]
  · simp [go_sem]
  · simp [go_sem]
  rintro q e' s' ⟨rfl, h1, h2⟩
  simp [go_sem]
  exact ⟨by rw [hget_dropLoc_lt hlt]; exact h1, ((hx.fr [c]).trans h2 (by simp)).dropLoc⟩

/-- The modes: what becomes of the row, or none. -/
def vertF (before : List Bool) (w : Int) (row : List Bool) (a : Int) (x : Bool) (sh : Int) : Option (List Bool × Int × Bool) :=
  if encB before w a x + sh ≤ a ∨ encB before w a x + sh < 0 ∨ w < encB before w a x + sh then none
  else some (fillL row x (max a 0) (encB before w a x + sh), encB before w a x + sh, !x)
def passF (before : List Bool) (w : Int) (row : List Bool) (a : Int) (x : Bool) : Option (List Bool × Int × Bool) :=
  if w ≤ encD before w a x then none else some (fillL row x (max a 0) (encD before w a x), encD before w a x, x)

/-- What a mode answers. -/
def ModeR (st s : St) (c tc : Nat) (lc : Bool) (before : List Bool) (w : Int) (res : Option (List Bool × Int × Bool)) (v : AV) : Prop :=
  match res with
  | none => v = .bool false
  | some (row, a, x) => v = .bool true ∧ hget s.h c = some (.cells tc lc (coderCells row before w a x))

section
variable {row before : List Bool} {w a : Int} {x : Bool} {c r tc : Nat} {lc : Bool}

theorem pass_call (H : B.HasFax T) (hwf : st.Wf) (hr : row.length = 128) (hb : before.length = 128) (hw : 1 ≤ w) (hw' : w ≤ 128) (ha : -1 ≤ a) (ha' : a < w)
    (hc : hget st.h c = some (.cells tc lc (coderCells row before w a x))) :
    CRes (call T (.fn 49 [] []) [.agg [.ptr c 0, .ptr r 0]] st) fun v s => Frm [c] st s ∧ ModeR st s c tc lc before w (passF before w row a x) v := by
  refine call_res H.e49 H.f49 rfl ?_
  have hlt := hwf.lt _ _ hc
  have hx := Ext.new hwf (.cells 73 true [.ptr c 0, .ptr r 0])
  have hbx : hget ((st.nx, AObj.cells 73 true [.ptr c 0, .ptr r 0]) :: st.h) st.nx = some (.cells 73 true [.ptr c 0, .ptr r 0]) := by simp [hget_cons]
  have hb0 : rdCell ((st.nx, AObj.cells 73 true [.ptr c 0, .ptr r 0]) :: st.h) st.nx 0 = some (.ptr c 0) := by simp [rdCell, hbx]
  have hcx := hx.get hwf hc
  obtain ⟨_, _, b3, b4, _⟩ := enc_bounds row before x ha ha' hw
  simp (disch := omega) [B.fax_filler_pass, go_sem, hb0]
  refine (ahead_tells H hx.wf hr hb hcx (by omega) hw' ha (by omega)).use fun s1 hs1 => ?_
  rw [← encB, ← encD]
  have hbs := hs1.get hx.wf hbx
  have hcs := hs1.get hx.wf hcx
  have hbs0 : rdCell s1.h st.nx 0 = some (.ptr c 0) := by simp [rdCell, hbs]
  have gw := cc_wide (row := row) (before := before) (wide := w) (at' := a) (black := x) hr hb
  have ga := cc_at (row := row) (before := before) (wide := w) (at' := a) (black := x) hr hb
  have hcw : rdCell s1.h c 256 = some (.int .i64 w) := by simp [rdCell, hcs, gw]
  have hca : rdCell s1.h c 257 = some (.int .i64 a) := by simp [rdCell, hcs, ga]
  have hbA := rd_all hbs (k := 2) rfl
  have hE1 := hx.trans hs1
  unfold passF
  generalize encD before w a x = d at *
  by_cases hd : w ≤ d
  · rw [if_pos hd]
    simp (disch := omega) [go_sem, hbs0, hcw, hd]
    exact ⟨(hE1.fr [c]).dropLoc, rfl⟩
  · rw [if_neg hd]
    have hx2 := Ext.aside hs1.wf 8
    simp (disch := omega) [go_sem, hbs0, hcw, hca, hd, hbA]
    refine (fill_call (st := ⟨_, _⟩) H hx2.wf hr hb (from' := a) (to := d) (by omega) (by omega) (by omega) hcs).mono ?_
    rintro v s2 ⟨rfl, h1, h2⟩
    have hbs2 : hget s2.h st.nx = _ := h2.get hx2.wf hbs (by simp; omega)
    have hbs20 : rdCell s2.h st.nx 0 = some (.ptr c 0) := by simp [rdCell, hbs2]
    have hfl := fillL_length row x (max a 0) d
    have hwr := wr_cells (o := 257) (v := .int .i64 d) h1 rfl (by rw [cc_len (by omega) hb]; omega)
    rw [cc_set_at (by omega) hb] at hwr
    have hS := Frm.set (o := .cells tc lc (coderCells (fillL row x (max a 0) d) before w d x)) h2.wf h1
    simp (disch := omega) [go_sem, hbs20, hwr]
    refine ⟨?_, rfl, ?_⟩
    · exact ((((hE1.trans hx2).fr [c]).trans h2 (by simp)).trans hS (by simp)).dropLoc
    · show hget (dropLoc _ _) _ = _
      rw [hget_dropLoc_lt hlt, hget_hset h1, if_pos rfl]

theorem vertical_call (H : B.HasFax T) (hwf : st.Wf) (hr : row.length = 128) (hb : before.length = 128) (hw : 1 ≤ w) (hw' : w ≤ 128) (ha : -1 ≤ a) (ha' : a < w) {sh : Int} (h0 : -10 ≤ sh) (h1 : sh ≤ 10)
    (hc : hget st.h c = some (.cells tc lc (coderCells row before w a x))) :
    CRes (call T (.fn 54 [] []) [.agg [.ptr c 0, .ptr r 0], .int .i64 sh] st) fun v s => Frm [c] st s ∧ ModeR st s c tc lc before w (vertF before w row a x sh) v := by
  refine call_res H.e54 H.f54 rfl ?_
  have hlt := hwf.lt _ _ hc
  have hx := Ext.new hwf (.cells 73 true [.ptr c 0, .ptr r 0])
  have hbx : hget ((st.nx, AObj.cells 73 true [.ptr c 0, .ptr r 0]) :: st.h) st.nx = some (.cells 73 true [.ptr c 0, .ptr r 0]) := by simp [hget_cons]
  have hb0 : rdCell ((st.nx, AObj.cells 73 true [.ptr c 0, .ptr r 0]) :: st.h) st.nx 0 = some (.ptr c 0) := by simp [rdCell, hbx]
  have hcx := hx.get hwf hc
  obtain ⟨b1, b2, _⟩ := enc_bounds row before x ha ha' hw
  simp (disch := omega) [B.fax_filler_vertical, go_sem, hb0]
  refine (ahead_tells H hx.wf hr hb hcx (by omega) hw' ha (by omega)).use fun s1 hs1 => ?_
  rw [← encB]
  have hbs := hs1.get hx.wf hbx
  have hcs := hs1.get hx.wf hcx
  have hbs0 : rdCell s1.h st.nx 0 = some (.ptr c 0) := by simp [rdCell, hbs]
  have gw := cc_wide (row := row) (before := before) (wide := w) (at' := a) (black := x) hr hb
  have ga := cc_at (row := row) (before := before) (wide := w) (at' := a) (black := x) hr hb
  have hcw : rdCell s1.h c 256 = some (.int .i64 w) := by simp [rdCell, hcs, gw]
  have hca : rdCell s1.h c 257 = some (.int .i64 a) := by simp [rdCell, hcs, ga]
  have hbA := rd_all hbs (k := 2) rfl
  have hE1 := hx.trans hs1
  unfold vertF
  generalize hbe : encB before w a x = b at *
  obtain ⟨p, hp⟩ : ∃ p, p = b + sh := ⟨_, rfl⟩
  simp (disch := omega) [go_sem, wrap64]
  rw [← hp]
  by_cases hA : p ≤ a
  · simp (disch := omega) [go_sem, hbs0, hcw, hca, hA]
    exact ⟨(hE1.fr [c]).dropLoc, rfl⟩
  by_cases hB : p < 0
  · simp (disch := omega) [go_sem, hbs0, hcw, hca, hA, hB]
    exact ⟨(hE1.fr [c]).dropLoc, rfl⟩
  by_cases hC : w < p
  · simp (disch := omega) [go_sem, hbs0, hcw, hca, hA, hB, hC]
    exact ⟨(hE1.fr [c]).dropLoc, rfl⟩
  have hx2 := Ext.aside hs1.wf 8
  simp (disch := omega) [go_sem, hbs0, hcw, hca, hA, hB, hC, hbA]
  refine (fill_call (st := ⟨_, _⟩) H hx2.wf hr hb (from' := a) (to := p) (by omega) (by omega) (by omega) hcs).mono ?_
  rintro v s2 ⟨rfl, h1, h2⟩
  have hbs2 : hget s2.h st.nx = _ := h2.get hx2.wf hbs (by simp; omega)
  have hbs20 : rdCell s2.h st.nx 0 = some (.ptr c 0) := by simp [rdCell, hbs2]
  have hfl := fillL_length row x (max a 0) p
  have gk := cc_black (row := fillL row x (max a 0) p) (before := before) (wide := w) (at' := a) (black := x) (by omega) hb
  have hck : rdCell s2.h c 258 = some (.bool x) := by simp [rdCell, h1, gk]
  have hwr := wr_cells (o := 257) (v := .int .i64 p) h1 rfl (by rw [cc_len (by omega) hb]; omega)
  rw [cc_set_at (by omega) hb] at hwr
  have hS := Frm.set (o := .cells tc lc (coderCells (fillL row x (max a 0) p) before w p x)) h2.wf h1
  obtain ⟨h3, hh3⟩ : ∃ h3, h3 = hset s2.h c (.cells tc lc (coderCells (fillL row x (max a 0) p) before w p x)) := ⟨_, rfl⟩
  rw [← hh3] at hwr hS
  have hc3 : hget h3 c = some (.cells tc lc (coderCells (fillL row x (max a 0) p) before w p x)) := by rw [hh3, hget_hset h1, if_pos rfl]
  have hwr2 := wr_cells (o := 258) (v := .bool (!x)) hc3 rfl (by rw [cc_len (by omega) hb]; omega)
  rw [cc_set_black (by omega) hb] at hwr2
  have hS2 := Frm.set (st := ⟨h3, s2.nx⟩) (o := .cells tc lc (coderCells (fillL row x (max a 0) p) before w p (!x))) hS.wf hc3
  have hbs3 : hget h3 st.nx = _ := hS.get h2.wf hbs2 (by simp; omega)
  have hbs30 : rdCell h3 st.nx 0 = some (.ptr c 0) := by simp [rdCell, hbs3]
  simp (disch := omega) [go_sem, hbs20, hck, hwr, hwr2, hbs30]
  refine ⟨?_, ?_, rfl, ?_⟩
  · simp [reI, dfind, wanted, go_sem, hbs30]
  · exact ((((((hE1.trans hx2).fr [c]).trans h2 (by simp)).trans hS (by simp)).trans hS2 (by simp)).upTo (Nat.le_add_right _ 18)).dropLoc
  · show hget (dropLoc _ _) _ = _
    rw [hget_dropLoc_lt hlt, hget_hset hc3, if_pos rfl]

/-- A reader and a coder: what the modes that read tell. -/
theorem straight_call (H : B.HasFax T) (hwf : st.Wf) (hr : row.length = 128) (hb : before.length = 128) (hw : 1 ≤ w) (hw' : w ≤ 128) (ha : -1 ≤ a) (ha' : a < w)
    (hc : hget st.h c = some (.cells tc lc (coderCells row before w a x))) :
    CRes (call T (.fn 46 [] []) [.agg [.ptr c 0, .ptr r 0]] st) fun v s => Frm [c] st s ∧ ModeR st s c tc lc before w (vertF before w row a x 0) v := by
  refine call_res H.e46 H.f46 rfl ?_
  have hlt := hwf.lt _ _ hc
  have hx := Ext.new hwf (.cells 73 true [.ptr c 0, .ptr r 0])
  have hbx : hget ((st.nx, AObj.cells 73 true [.ptr c 0, .ptr r 0]) :: st.h) st.nx = some (.cells 73 true [.ptr c 0, .ptr r 0]) := by simp [hget_cons]
  have hbA := rd_all hbx (k := 2) rfl
  simp (disch := omega) [B.fax_filler_straight, go_sem, hbA]
  refine (vertical_call H hx.wf hr hb hw hw' ha ha' (sh := 0) (by omega) (by omega) (hx.get hwf hc)).mono ?_
  rintro v s ⟨h1, h2⟩
  simp (disch := omega) [go_sem]
  refine ⟨((hx.fr [c]).trans h1 (by simp)).dropLoc, ?_⟩
  unfold ModeR at h2 ⊢
  split at h2
  · exact h2
  · refine ⟨h2.1, ?_⟩
    show hget (dropLoc _ _) _ = _
    rw [hget_dropLoc_lt hlt]; exact h2.2

variable {tr : Nat} {lr : Bool} {str : List UInt8} {p : Nat × Bool}

/-- What a mode answers that reads. -/
def ModeRR (st s : St) (c tc : Nat) (lc : Bool) (r tr : Nat) (lr : Bool) (str : List UInt8) (before : List Bool) (w : Int) (res : Option (List Bool × Int × Bool)) (p : Nat × Bool) (v : AV) : Prop :=
  Frm [c, r] st s ∧ hget s.h r = some (.cells tr lr (rdrC str p)) ∧ ModeR st s c tc lc before w res v

theorem ModeR.drop {s : St} {b : Nat} {res : Option (List Bool × Int × Bool)} {v : AV} {st0 : St} (h2 : ModeR st0 s c tc lc before w res v) (hlt : c < b) : ModeR st ⟨dropLoc b s.h, s.nx⟩ c tc lc before w res v := by
  unfold ModeR at h2 ⊢
  split at h2
  · exact h2
  · refine ⟨h2.1, ?_⟩
    show hget (dropLoc _ _) _ = _
    rw [hget_dropLoc_lt hlt]; exact h2.2
theorem one_call (H : B.HasFax T) (hwf : st.Wf) (hr : row.length = 128) (hb : before.length = 128) (hw : 1 ≤ w) (hw' : w ≤ 128) (ha : -1 ≤ a) (ha' : a < w) (hcr : c ≠ r) (hs : str.length ≤ 100000) (hp : p.1 ≤ 8 * str.length)
    (hc : hget st.h c = some (.cells tc lc (coderCells row before w a x))) (hrd : hget st.h r = some (.cells tr lr (rdrC str p))) :
    CRes (call T (.fn 47 [] []) [.agg [.ptr c 0, .ptr r 0]] st) fun v s => ModeRR st s c tc lc r tr lr str before w (vertF before w row a x (2 * ((rb (strBits str) p).1.toNat : Nat) - 1)) (rb (strBits str) p).2 v := by
  refine call_res H.e47 H.f47 rfl ?_
  have hlt := hwf.lt _ _ hc
  have hltr := hwf.lt _ _ hrd
  have hx0 := Ext.new hwf (.cells 73 true [.ptr c 0, .ptr r 0])
  have hx := hx0.trans (Ext.aside hx0.wf 9)
  have hbx : hget ((st.nx, AObj.cells 73 true [.ptr c 0, .ptr r 0]) :: st.h) st.nx = some (.cells 73 true [.ptr c 0, .ptr r 0]) := by simp [hget_cons]
  have hbA := rd_all hbx (k := 2) rfl
  have hb1 : rdCell ((st.nx, AObj.cells 73 true [.ptr c 0, .ptr r 0]) :: st.h) st.nx 1 = some (.ptr r 0) := by simp [rdCell, hbx]
  have t1 := bit_call (T := T) H (st := ⟨_, _⟩) hx.wf hs hp (hx.get hwf hrd)
  generalize hq : rb (strBits str) p = q at *
  have hx01 : q.1.toNat ≤ 1 := by cases q.1 <;> decide
  simp (disch := omega) [B.fax_filler_one, go_sem, hbA, hb1]
  refine t1.mono ?_
  rintro v s1 ⟨rfl, h1, h2⟩
  have hbs := h2.get hx.wf hbx (by simp; omega)
  have hcs := h2.get hx.wf (hx.get hwf hc) (by simpa using hcr)
  have hbA1 := rd_all hbs (k := 2) rfl
  simp (disch := omega) [go_sem, wrap64]
  refine ⟨by simp [reI, dfind, wanted, go_sem, hbA1], ?_⟩
  refine (vertical_call H h2.wf hr hb hw hw' ha ha' (sh := 2 * (q.1.toNat : Nat) - 1) (by omega) (by omega) hcs).mono ?_
  rintro v s2 ⟨h3, h4⟩
  simp (disch := omega) [go_sem]
  refine ⟨?_, ?_, h4.drop hlt⟩
  · exact ((((hx.fr [c, r]).trans h2 (by simp)).trans h3 (by simp)).dropLoc)
  · show hget (dropLoc _ _) _ = _
    rw [hget_dropLoc_lt hltr]
    exact h3.get h2.wf h1 (by simpa using fun h => hcr h.symm)

theorem two_call (H : B.HasFax T) (hwf : st.Wf) (hr : row.length = 128) (hb : before.length = 128) (hw : 1 ≤ w) (hw' : w ≤ 128) (ha : -1 ≤ a) (ha' : a < w) (hcr : c ≠ r) (hs : str.length ≤ 100000) (hp : p.1 ≤ 8 * str.length)
    (hc : hget st.h c = some (.cells tc lc (coderCells row before w a x))) (hrd : hget st.h r = some (.cells tr lr (rdrC str p))) :
    CRes (call T (.fn 50 [] []) [.agg [.ptr c 0, .ptr r 0]] st) fun v s => ModeRR st s c tc lc r tr lr str before w (vertF before w row a x (4 * ((rb (strBits str) p).1.toNat : Nat) - 2)) (rb (strBits str) p).2 v := by
  refine call_res H.e50 H.f50 rfl ?_
  have hlt := hwf.lt _ _ hc
  have hltr := hwf.lt _ _ hrd
  have hx0 := Ext.new hwf (.cells 73 true [.ptr c 0, .ptr r 0])
  have hx := hx0.trans (Ext.aside hx0.wf 9)
  have hbx : hget ((st.nx, AObj.cells 73 true [.ptr c 0, .ptr r 0]) :: st.h) st.nx = some (.cells 73 true [.ptr c 0, .ptr r 0]) := by simp [hget_cons]
  have hbA := rd_all hbx (k := 2) rfl
  have hb1 : rdCell ((st.nx, AObj.cells 73 true [.ptr c 0, .ptr r 0]) :: st.h) st.nx 1 = some (.ptr r 0) := by simp [rdCell, hbx]
  have t1 := bit_call (T := T) H (st := ⟨_, _⟩) hx.wf hs hp (hx.get hwf hrd)
  generalize hq : rb (strBits str) p = q at *
  have hx01 : q.1.toNat ≤ 1 := by cases q.1 <;> decide
  simp (disch := omega) [B.fax_filler_two, go_sem, hbA, hb1]
  refine t1.mono ?_
  rintro v s1 ⟨rfl, h1, h2⟩
  have hbs := h2.get hx.wf hbx (by simp; omega)
  have hcs := h2.get hx.wf (hx.get hwf hc) (by simpa using hcr)
  have hbA1 := rd_all hbs (k := 2) rfl
  simp (disch := omega) [go_sem, wrap64]
  refine ⟨by simp [reI, dfind, wanted, go_sem, hbA1], ?_⟩
  refine (vertical_call H h2.wf hr hb hw hw' ha ha' (sh := 4 * (q.1.toNat : Nat) - 2) (by omega) (by omega) hcs).mono ?_
  rintro v s2 ⟨h3, h4⟩
  simp (disch := omega) [go_sem]
  refine ⟨?_, ?_, h4.drop hlt⟩
  · exact ((((hx.fr [c, r]).trans h2 (by simp)).trans h3 (by simp)).dropLoc)
  · show hget (dropLoc _ _) _ = _
    rw [hget_dropLoc_lt hltr]
    exact h3.get h2.wf h1 (by simpa using fun h => hcr h.symm)

theorem three_call (H : B.HasFax T) (hwf : st.Wf) (hr : row.length = 128) (hb : before.length = 128) (hw : 1 ≤ w) (hw' : w ≤ 128) (ha : -1 ≤ a) (ha' : a < w) (hcr : c ≠ r) (hs : str.length ≤ 100000) (hp : p.1 ≤ 8 * str.length)
    (hc : hget st.h c = some (.cells tc lc (coderCells row before w a x))) (hrd : hget st.h r = some (.cells tr lr (rdrC str p))) :
    CRes (call T (.fn 51 [] []) [.agg [.ptr c 0, .ptr r 0]] st) fun v s => ModeRR st s c tc lc r tr lr str before w (vertF before w row a x (6 * ((rb (strBits str) p).1.toNat : Nat) - 3)) (rb (strBits str) p).2 v := by
  refine call_res H.e51 H.f51 rfl ?_
  have hlt := hwf.lt _ _ hc
  have hltr := hwf.lt _ _ hrd
  have hx0 := Ext.new hwf (.cells 73 true [.ptr c 0, .ptr r 0])
  have hx := hx0.trans (Ext.aside hx0.wf 9)
  have hbx : hget ((st.nx, AObj.cells 73 true [.ptr c 0, .ptr r 0]) :: st.h) st.nx = some (.cells 73 true [.ptr c 0, .ptr r 0]) := by simp [hget_cons]
  have hbA := rd_all hbx (k := 2) rfl
  have hb1 : rdCell ((st.nx, AObj.cells 73 true [.ptr c 0, .ptr r 0]) :: st.h) st.nx 1 = some (.ptr r 0) := by simp [rdCell, hbx]
  have t1 := bit_call (T := T) H (st := ⟨_, _⟩) hx.wf hs hp (hx.get hwf hrd)
  generalize hq : rb (strBits str) p = q at *
  have hx01 : q.1.toNat ≤ 1 := by cases q.1 <;> decide
  simp (disch := omega) [B.fax_filler_three, go_sem, hbA, hb1]
  refine t1.mono ?_
  rintro v s1 ⟨rfl, h1, h2⟩
  have hbs := h2.get hx.wf hbx (by simp; omega)
  have hcs := h2.get hx.wf (hx.get hwf hc) (by simpa using hcr)
  have hbA1 := rd_all hbs (k := 2) rfl
  simp (disch := omega) [go_sem, wrap64]
  refine ⟨by simp [reI, dfind, wanted, go_sem, hbA1], ?_⟩
  refine (vertical_call H h2.wf hr hb hw hw' ha ha' (sh := 6 * (q.1.toNat : Nat) - 3) (by omega) (by omega) hcs).mono ?_
  rintro v s2 ⟨h3, h4⟩
  simp (disch := omega) [go_sem]
  refine ⟨?_, ?_, h4.drop hlt⟩
  · exact ((((hx.fr [c, r]).trans h2 (by simp)).trans h3 (by simp)).dropLoc)
  · show hget (dropLoc _ _) _ = _
    rw [hget_dropLoc_lt hltr]
    exact h3.get h2.wf h1 (by simpa using fun h => hcr h.symm)

end

end Go.Ev

/- The horizontal mode, and the modes. -/
namespace Go.Ev
open Go
set_option linter.unusedSimpArgs false
set_option linter.unusedVariables false

variable {T : Tab} {st : St}

def horF (bits : List Bool) (w : Int) (row : List Bool) (a : Int) (x : Bool) (p : Nat × Bool) : Option (List Bool × Int × Bool) :=
  if max a 0 + (runF bits p).1 ≤ a ∨ max a 0 + (runF bits p).1 + (runF bits (runF bits p).2).1 ≤ a ∨ w < max a 0 + (runF bits p).1 + (runF bits (runF bits p).2).1 then none
  else some (fillL (fillL row x (max a 0) (max a 0 + (runF bits p).1)) (!x) (max a 0 + (runF bits p).1) (max a 0 + (runF bits p).1 + (runF bits (runF bits p).2).1), max a 0 + (runF bits p).1 + (runF bits (runF bits p).2).1, x)

section
variable {row before : List Bool} {w a : Int} {x : Bool} {c r tc : Nat} {lc : Bool} {tr : Nat} {lr : Bool} {str : List UInt8} {p : Nat × Bool}

theorem horizontal_call (H : B.HasFax T) (hwf : st.Wf) (hr : row.length = 128) (hb : before.length = 128) (hw : 1 ≤ w) (hw' : w ≤ 128) (ha : -1 ≤ a) (ha' : a < w) (hcr : c ≠ r) (hs : str.length ≤ 100000) (hp : p.1 ≤ 8 * str.length)
    (hc : hget st.h c = some (.cells tc lc (coderCells row before w a x))) (hrd : hget st.h r = some (.cells tr lr (rdrC str p))) :
    CRes (call T (.fn 48 [] []) [.agg [.ptr c 0, .ptr r 0]] st) fun v s => ModeRR st s c tc lc r tr lr str before w (horF (strBits str) w row a x p) (runF (strBits str) (runF (strBits str) p).2).2 v := by
  refine call_res H.e48 H.f48 rfl ?_
  have hlt := hwf.lt _ _ hc
  have hltr := hwf.lt _ _ hrd
  have hbl := strBits_length str
  have hx := Ext.new hwf (.cells 73 true [.ptr c 0, .ptr r 0])
  have hbx : hget ((st.nx, AObj.cells 73 true [.ptr c 0, .ptr r 0]) :: st.h) st.nx = some (.cells 73 true [.ptr c 0, .ptr r 0]) := by simp [hget_cons]
  have ga := cc_at (row := row) (before := before) (wide := w) (at' := a) (black := x) hr hb
  have gw := cc_wide (row := row) (before := before) (wide := w) (at' := a) (black := x) hr hb
  have gk := cc_black (row := row) (before := before) (wide := w) (at' := a) (black := x) hr hb
  have hb0 : rdCell ((st.nx, AObj.cells 73 true [.ptr c 0, .ptr r 0]) :: st.h) st.nx 0 = some (.ptr c 0) := by simp [rdCell, hbx]
  have hb1 : rdCell ((st.nx, AObj.cells 73 true [.ptr c 0, .ptr r 0]) :: st.h) st.nx 1 = some (.ptr r 0) := by simp [rdCell, hbx]
  have hcx := hx.get hwf hc
  have hca : rdCell ((st.nx, AObj.cells 73 true [.ptr c 0, .ptr r 0]) :: st.h) c 257 = some (.int .i64 a) := by simp only [rdCell]; rw [hcx]; exact ga
  have hmx : (if a < 0 then 0 else a) = max a 0 := by omega
  have t1 := run_reads (T := T) H (st := ⟨_, _⟩) hx.wf hs hp (hx.get hwf hrd)
  have hle1 := runF_le (bits := strBits str) (p := p) (by omega)
  unfold horF
  generalize runF (strBits str) p = q1 at *
  simp (disch := omega) [B.fax_filler_horizontal, go_sem, hb0, hb1, hca, hmx]
  refine t1.use fun s1 h1 hF1 => ?_
  have hbs1 := hF1.get hx.wf hbx (by simp; omega)
  have hb11 : rdCell s1.h st.nx 1 = some (.ptr r 0) := by simp [rdCell, hbs1]
  have hc1 := hF1.get hx.wf hcx (by simpa using hcr)
  have t2 := run_reads (T := T) H hF1.wf hs (p := q1.2) (by omega) h1
  have hle2 := runF_le (bits := strBits str) (p := q1.2) (by omega)
  generalize runF (strBits str) q1.2 = q2 at *
  simp (disch := omega) [go_sem, hb11, wrap64]
  refine t2.use fun s2 h2 hF2 => ?_
  have hbs2 := hF2.get hF1.wf hbs1 (by simp; omega)
  have hb20 : rdCell s2.h st.nx 0 = some (.ptr c 0) := by simp [rdCell, hbs2]
  have hc2 := hF2.get hF1.wf hc1 (by simpa using hcr)
  have hca2 : rdCell s2.h c 257 = some (.int .i64 a) := by simp only [rdCell]; rw [hc2]; exact ga
  have hcw2 : rdCell s2.h c 256 = some (.int .i64 w) := by simp only [rdCell]; rw [hc2]; exact gw
  have hF02 : Frm [c, r] st s2 := (((hx.fr [c, r]).trans hF1 (by simp)).trans hF2 (by simp))
  have hbA2 := rd_all hbs2 (k := 2) rfl
  obtain ⟨P, hP⟩ : ∃ P, P = max a 0 + (q1.1 : Int) := ⟨_, rfl⟩
  obtain ⟨Q, hQ⟩ : ∃ Q, Q = P + (q2.1 : Int) := ⟨_, rfl⟩
  have hfail : ∀ (R : List MRes) (e : Env), ModeRR st ⟨dropLoc st.nx s2.h, s2.nx⟩ c tc lc r tr lr str before w none q2.2 (.bool false) := fun _ _ =>
    ⟨hF02.dropLoc, by show hget (dropLoc _ _) _ = _; rw [hget_dropLoc_lt hltr]; exact h2, rfl⟩
  simp (disch := omega) [go_sem, wrap64]
  rw [← hP, ← hQ]
  by_cases hA : P ≤ a
  · simp (disch := omega) [go_sem, hb20, hca2, hcw2, hA]
    exact hfail [] []
  by_cases hB : Q ≤ a
  · omega
  by_cases hC : w < Q
  · simp (disch := omega) [go_sem, hb20, hca2, hcw2, hA, hB, hC]
    exact hfail [] []
  simp (disch := omega) [go_sem, hb20, hca2, hcw2, hA, hB, hC, hbA2]
  refine (fill_call H hF2.wf hr hb (from' := max a 0) (to := P) (by omega) (by omega) (by omega) hc2).mono ?_
  rintro v s3 ⟨rfl, h3, hF3⟩
  rw [show max (max a 0) 0 = max a 0 by omega] at h3
  have hl3 : (fillL row x (max a 0) P).length = 128 := by rw [fillL_length]; exact hr
  have hbs3 := hF3.get hF2.wf hbs2 (by simp; omega)
  have hr3 := hF3.get hF2.wf h2 (by simpa using fun h => hcr h.symm)
  generalize fillL row x (max a 0) P = row3 at *
  have hb30 : rdCell s3.h st.nx 0 = some (.ptr c 0) := by simp [rdCell, hbs3]
  have gk3 := cc_black (row := row3) (before := before) (wide := w) (at' := a) (black := x) hl3 hb
  have hck3 : rdCell s3.h c 258 = some (.bool x) := by simp only [rdCell]; rw [h3]; exact gk3
  have hwr3 := wr_cells (o := 258) (v := .bool (!x)) h3 rfl (by rw [cc_len hl3 hb]; omega)
  rw [cc_set_black hl3 hb] at hwr3
  have hS3 := Frm.set (o := .cells tc lc (coderCells row3 before w a (!x))) hF3.wf h3
  obtain ⟨g4, hg4⟩ : ∃ g4, g4 = hset s3.h c (.cells tc lc (coderCells row3 before w a (!x))) := ⟨_, rfl⟩
  rw [← hg4] at hwr3 hS3
  have hc4 : hget g4 c = some (.cells tc lc (coderCells row3 before w a (!x))) := by rw [hg4, hget_hset h3, if_pos rfl]
  have hbs4 := hS3.get hF3.wf hbs3 (by simp; omega)
  have hr4 := hS3.get hF3.wf hr3 (by simpa using fun h => hcr h.symm)
  have hF4 := hS3.upTo (m := s3.nx + 11) (by omega)
  have hbA4 := rd_all hbs4 (k := 2) rfl
  simp (disch := omega) [go_sem, hb30, hck3, hwr3, hbA4]
  refine (fill_call (st := ⟨_, _⟩) H hF4.wf hl3 hb (from' := P) (to := Q) (by omega) (by omega) (by omega) hc4).mono ?_
  rintro v s5 ⟨rfl, h5, hF5⟩
  rw [show max P 0 = P by omega] at h5
  have hl5 : (fillL row3 (!x) P Q).length = 128 := by rw [fillL_length]; exact hl3
  have hbs5 := hF5.get hF4.wf hbs4 (by simp; omega)
  have hr5 := hF5.get hF4.wf hr4 (by simpa using fun h => hcr h.symm)
  generalize fillL row3 (!x) P Q = row5 at *
  have hb50 : rdCell s5.h st.nx 0 = some (.ptr c 0) := by simp [rdCell, hbs5]
  have gk5 := cc_black (row := row5) (before := before) (wide := w) (at' := a) (black := !x) hl5 hb
  have hck5 : rdCell s5.h c 258 = some (.bool (!x)) := by simp only [rdCell]; rw [h5]; exact gk5
  have hwr5 := wr_cells (o := 258) (v := .bool x) h5 rfl (by rw [cc_len hl5 hb]; omega)
  rw [cc_set_black hl5 hb] at hwr5
  have hS5 := Frm.set (o := .cells tc lc (coderCells row5 before w a x)) hF5.wf h5
  obtain ⟨g6, hg6⟩ : ∃ g6, g6 = hset s5.h c (.cells tc lc (coderCells row5 before w a x)) := ⟨_, rfl⟩
  rw [← hg6] at hwr5 hS5
  have hc6 : hget g6 c = some (.cells tc lc (coderCells row5 before w a x)) := by rw [hg6, hget_hset h5, if_pos rfl]
  have hbs6 := hS5.get hF5.wf hbs5 (by simp; omega)
  have hr6 := hS5.get hF5.wf hr5 (by simpa using fun h => hcr h.symm)
  have hb60 : rdCell g6 st.nx 0 = some (.ptr c 0) := by simp [rdCell, hbs6]
  have hwr6 := wr_cells (o := 257) (v := .int .i64 Q) hc6 rfl (by rw [cc_len hl5 hb]; omega)
  rw [cc_set_at hl5 hb] at hwr6
  have hF6 := hS5.upTo (m := s5.nx + 11) (by omega)
  have hS6 := Frm.set (st := ⟨g6, s5.nx + 11⟩) (o := .cells tc lc (coderCells row5 before w Q x)) hF6.wf hc6
  simp (disch := omega) [go_sem, hb50, hck5, hwr5, hb60, hwr6]
  refine ⟨?_, ?_, rfl, ?_⟩
  · exact ((((((hF02.trans hF3 (by simp)).trans hF4 (by simp)).trans hF5 (by simp)).trans hF6 (by simp)).trans hS6 (by simp))).dropLoc
  · show hget (dropLoc _ _) _ = _
    rw [hget_dropLoc_lt hltr]
    exact hS6.get hF6.wf hr6 (by simpa using fun h => hcr h.symm)
  · show hget (dropLoc _ _) _ = _
    rw [hget_dropLoc_lt hlt, hget_hset hc6, if_pos rfl]
end

def modeEs : List (AV × AV) := [(.int .i64 0, .fn 46 [] []), (.int .i64 1, .fn 47 [] []), (.int .i64 2, .fn 48 [] []), (.int .i64 3, .fn 49 [] []), (.int .i64 4, .fn 50 [] []), (.int .i64 5, .fn 51 [] [])]
theorem modes_call (H : B.HasFax T) (hwf : st.Wf) : CRes (call T (.fn 37 [] []) [] st) fun v s => Ext st s ∧ ∃ n, st.nx ≤ n ∧ v = .map n ∧ hget s.h n = some (.map modeEs) := by
  refine call_res H.e37 H.f37 rfl ?_
  simp [B.fax_modes, go_sem, hget_cons, hset_cons, mins, cellEqK]
  have hx := Ext.new hwf (.map modeEs)
  exact ⟨hx.dropLoc, st.nx, Nat.le_refl _, rfl, hget_dropLoc_keep hx.wf (by simp [hget_cons]) rfl⟩

end Go.Ev

/- A row decoded: what next tells. -/
namespace Go.Ev
open Go
set_option linter.unusedSimpArgs false
set_option linter.unusedVariables false

variable {T : Tab} {st : St}

/-- What decoding comes to: nothing, the end, or a row. -/
inductive DR where
  | fail
  | fin (p : Nat × Bool)
  | go (row : List Bool) (a : Int) (x : Bool) (p : Nat × Bool)

def modeF (bits before : List Bool) (w : Int) (row : List Bool) (a : Int) (x : Bool) (n : Nat) (p : Nat × Bool) : Option (List Bool × Int × Bool) × (Nat × Bool) :=
  match n with
  | 0 => (vertF before w row a x 0, p)
  | 1 => (vertF before w row a x (2 * ((rb bits p).1.toNat : Nat) - 1), (rb bits p).2)
  | 2 => (horF bits w row a x p, (runF bits (runF bits p).2).2)
  | 3 => (passF before w row a x, p)
  | 4 => (vertF before w row a x (4 * ((rb bits p).1.toNat : Nat) - 2), (rb bits p).2)
  | 5 => (vertF before w row a x (6 * ((rb bits p).1.toNat : Nat) - 3), (rb bits p).2)
  | _ => (none, p)

def stepF (bits before : List Bool) (w : Int) (row : List Bool) (a : Int) (x : Bool) (p : Nat × Bool) : DR :=
  if (zF bits 8 0 p).2.2 = true then .fail
  else if (zF bits 8 0 p).1 = 7 ∧ a < 0 then .fin (zF bits 8 0 p).2
  else match (modeF bits before w row a x (zF bits 8 0 p).1 (zF bits 8 0 p).2) with
    | (some (row', a', x'), p') => if p'.2 = true then .fail else .go row' a' x' p'
    | (none, _) => .fail

def decRowF (bits before : List Bool) (w : Int) : Nat → List Bool → Int → Bool → Nat × Bool → DR
  | 0, _, _, _, _ => .fail
  | k + 1, row, a, x, p => if a < w then (match stepF bits before w row a x p with
    | .go row' a' x' p' => decRowF bits before w k row' a' x' p'
    | r => r) else .go row a x p

section
variable {bits row before : List Bool} {w a : Int} {x : Bool} {c r tc : Nat} {lc : Bool} {tr : Nat} {lr : Bool} {str : List UInt8} {p : Nat × Bool}

theorem vertF_some {sh : Int} {row' : List Bool} {a' : Int} {x' : Bool} (h : vertF before w row a x sh = some (row', a', x')) : a < a' ∧ a' ≤ w ∧ row'.length = row.length := by
  unfold vertF at h
  split at h
  · cases h
  · simp only [Option.some.injEq, Prod.mk.injEq] at h
    obtain ⟨rfl, rfl, rfl⟩ := h
    exact ⟨by omega, by omega, fillL_length _ _ _ _⟩
theorem passF_some {row' : List Bool} {a' : Int} {x' : Bool} (ha : -1 ≤ a) (haw : a < w) (hw : 1 ≤ w) (h : passF before w row a x = some (row', a', x')) : a < a' ∧ a' ≤ w ∧ row'.length = row.length := by
  unfold passF at h
  obtain ⟨b1, b2, b3, b4, _⟩ := enc_bounds row before x ha haw hw
  split at h
  · cases h
  · simp only [Option.some.injEq, Prod.mk.injEq] at h
    obtain ⟨rfl, rfl, rfl⟩ := h
    exact ⟨by omega, by omega, fillL_length _ _ _ _⟩
theorem horF_some {row' : List Bool} {a' : Int} {x' : Bool} (h : horF bits w row a x p = some (row', a', x')) : a < a' ∧ a' ≤ w ∧ row'.length = row.length := by
  unfold horF at h
  split at h
  · cases h
  · simp only [Option.some.injEq, Prod.mk.injEq] at h
    obtain ⟨rfl, rfl, rfl⟩ := h
    refine ⟨by omega, by omega, ?_⟩
    rw [fillL_length, fillL_length]

theorem modeF_ok {n : Nat} (ha : -1 ≤ a) (haw : a < w) (hw : 1 ≤ w) (hp : p.1 ≤ bits.length) : (modeF bits before w row a x n p).2.1 ≤ bits.length ∧ p.1 ≤ (modeF bits before w row a x n p).2.1 ∧
    ∀ row' a' x', (modeF bits before w row a x n p).1 = some (row', a', x') → a < a' ∧ a' ≤ w ∧ row'.length = row.length := by
  have h1 := rb_le hp
  have h2 := runF_le hp
  have h3 := runF_le (bits := bits) (p := (runF bits p).2) h2.1
  unfold modeF
  split
  · exact ⟨hp, Nat.le_refl _, fun _ _ _ h => vertF_some h⟩
  · exact ⟨h1.1, h1.2, fun _ _ _ h => vertF_some h⟩
  · exact ⟨h3.1, by simp only; omega, fun _ _ _ h => horF_some h⟩
  · exact ⟨hp, Nat.le_refl _, fun _ _ _ h => passF_some ha haw hw h⟩
  · exact ⟨h1.1, h1.2, fun _ _ _ h => vertF_some h⟩
  · exact ⟨h1.1, h1.2, fun _ _ _ h => vertF_some h⟩
  · exact ⟨hp, Nat.le_refl _, fun _ _ _ h => by cases h⟩

theorem mode_call (H : B.HasFax T) {n : Nat} (hn : n < 6) (hwf : st.Wf) (hr : row.length = 128) (hb : before.length = 128) (hw : 1 ≤ w) (hw' : w ≤ 128) (ha : -1 ≤ a) (ha' : a < w) (hcr : c ≠ r) (hs : str.length ≤ 100000) (hp : p.1 ≤ 8 * str.length)
    (hc : hget st.h c = some (.cells tc lc (coderCells row before w a x))) (hrd : hget st.h r = some (.cells tr lr (rdrC str p))) :
    CRes (call T (.fn (46 + n) [] []) [.agg [.ptr c 0, .ptr r 0]] st) fun v s => ModeRR st s c tc lc r tr lr str before w (modeF (strBits str) before w row a x n p).1 (modeF (strBits str) before w row a x n p).2 v := by
  have keep : ∀ {f : AV} {args : List AV} {res : Option (List Bool × Int × Bool)}, CRes (call T f args st) (fun v s => Frm [c] st s ∧ ModeR st s c tc lc before w res v) → CRes (call T f args st) fun v s => ModeRR st s c tc lc r tr lr str before w res p v := by
    intro f args res h
    refine h.mono fun v s ⟨h1, h2⟩ => ⟨h1.mono (by simp), h1.get hwf hrd (by simpa using fun h => hcr h.symm), h2⟩
  have hn' : n = 0 ∨ n = 1 ∨ n = 2 ∨ n = 3 ∨ n = 4 ∨ n = 5 := by omega
  rcases hn' with rfl | rfl | rfl | rfl | rfl | rfl
  · exact keep (straight_call H hwf hr hb hw hw' ha ha' hc)
  · exact one_call H hwf hr hb hw hw' ha ha' hcr hs hp hc hrd
  · exact horizontal_call H hwf hr hb hw hw' ha ha' hcr hs hp hc hrd
  · exact keep (pass_call H hwf hr hb hw hw' ha ha' hc)
  · exact two_call H hwf hr hb hw hw' ha ha' hcr hs hp hc hrd
  · exact three_call H hwf hr hb hw hw' ha ha' hcr hs hp hc hrd

theorem mfind_modes (n : Nat) : mfind (.i .i64) (.int .i64 n) modeEs = some (if n < 6 then some (.fn (46 + n) [] []) else none) := by
  by_cases h : n < 6
  · rw [if_pos h]
    have hn' : n = 0 ∨ n = 1 ∨ n = 2 ∨ n = 3 ∨ n = 4 ∨ n = 5 := by omega
    rcases hn' with rfl | rfl | rfl | rfl | rfl | rfl <;> rfl
  · rw [if_neg h]
    have e : ∀ m : Nat, m < 6 → decide ((n : Int) = (m : Nat)) = false := fun m hm => by simp; omega
    have e0 := e 0 (by omega); have e1 := e 1 (by omega); have e2 := e 2 (by omega); have e3 := e 3 (by omega); have e4 := e 4 (by omega); have e5 := e 5 (by omega)
    simp at e0 e1 e2 e3 e4 e5
    simp [mfind, modeEs, cellEqK, e0, e1, e2, e3, e4, e5]

/-- What the loop of next comes to. -/
def NextL (st s : St) (c tc : Nat) (lc : Bool) (r tr : Nat) (lr : Bool) (str : List UInt8) (before : List Bool) (w : Int) (d : DR) (q : Ex) (e : Env) : Prop :=
  Frm [c, r] st s ∧ match d with
  | .fail => q = .ret ∧ eget e 2 = .bool false ∧ eget e 3 = .bool false
  | .fin p => q = .ret ∧ eget e 2 = .bool true ∧ eget e 3 = .bool false ∧ hget s.h r = some (.cells tr lr (rdrC str p))
  | .go row a x p => q = .exit 0 ∧ hget s.h r = some (.cells tr lr (rdrC str p)) ∧ hget s.h c = some (.cells tc lc (coderCells row before w a x))

theorem NextL.trans {s s' : St} {d : DR} {q : Ex} {e : Env} (f : Frm [c, r] st s) (h : NextL s s' c tc lc r tr lr str before w d q e) : NextL st s' c tc lc r tr lr str before w d q e :=
  ⟨f.trans h.1 (fun n hn => .inl hn), h.2⟩

theorem next_loop (H : B.HasFax T) {b : Nat} (hb : before.length = 128) (hw : 1 ≤ w) (hw' : w ≤ 128) (hcr : c ≠ r) (hbc : b ≠ c) (hbr : b ≠ r) (hs : str.length ≤ 100000) : ∀ (k : Nat) (row : List Bool) (a : Int) (x : Bool) (p : Nat × Bool) (st : St) (e : Env),
    (w - a).toNat < k → -1 ≤ a → a ≤ w → row.length = 128 → p.1 ≤ 8 * str.length → st.Wf → hget st.h b = some (.cells 73 true [.ptr c 0, .ptr r 0]) → hget st.h c = some (.cells tc lc (coderCells row before w a x)) → hget st.h r = some (.cells tr lr (rdrC str p)) →
    eget e 1 = .ptr b 0 →
    Res (run T (.loop B.fax_filler_next_l0) e st) fun q e' s' => NextL st s' c tc lc r tr lr str before w (decRowF (strBits str) before w k row a x p) q e' := by
  intro k
  induction k with
  | zero => intro row a x p st e hk; omega
  | succ k ih =>
    intro row a x p st e hk ha haw hr hp hwf hbx hc hrd g1
    have hbl := strBits_length str
    have ga := cc_at (row := row) (before := before) (wide := w) (at' := a) (black := x) hr hb
    have gw := cc_wide (row := row) (before := before) (wide := w) (at' := a) (black := x) hr hb
    have hb0 : rdCell st.h b 0 = some (.ptr c 0) := by simp [rdCell, hbx]
    have hb1 : rdCell st.h b 1 = some (.ptr r 0) := by simp [rdCell, hbx]
    have hca : rdCell st.h c 257 = some (.int .i64 a) := by simp only [rdCell]; rw [hc]; exact ga
    have hcw : rdCell st.h c 256 = some (.int .i64 w) := by simp only [rdCell]; rw [hc]; exact gw
    have hx0 := Ext.aside hwf 11
    rw [run_loop]
    by_cases hlt : a < w
    · simp (disch := omega) [B.fax_filler_next_l0, go_sem, g1, hb0, hb1, hca, hcw, hlt]
      have t1 := zeros_reads (T := T) H (st := ⟨_, _⟩) hx0.wf hs hp hrd
      have hdec : decRowF (strBits str) before w (k + 1) row a x p = (match stepF (strBits str) before w row a x p with
        | .go row' a' x' p' => decRowF (strBits str) before w k row' a' x' p'
        | r => r) := by rw [decRowF, if_pos hlt]
      rw [hdec]
      unfold stepF
      have hzle := zF_le (bits := strBits str) 8 0 p (by omega)
      generalize zF (strBits str) 8 0 p = z at *
      refine t1.use fun s1 h1 hF1 => ?_
      have hbs1 := hF1.get hx0.wf hbx (by simpa using hbr)
      have hb11 : rdCell s1.h b 1 = some (.ptr r 0) := by simp [rdCell, hbs1]
      have hb10 : rdCell s1.h b 0 = some (.ptr c 0) := by simp [rdCell, hbs1]
      have hbad := rdrC_bad h1
      have hc1 := hF1.get hx0.wf hc (by simpa using hcr)
      have hca1 : rdCell s1.h c 257 = some (.int .i64 a) := by simp only [rdCell]; rw [hc1]; exact ga
      have hF01 : Frm [c, r] st s1 := ((hx0.fr [c, r]).trans hF1 (by simp))
      cases hzb : z.2.2 with
      | true =>
        rw [hzb] at hbad
        simp (disch := omega) [go_sem, hb11, hbad]
        exact ⟨hF01, rfl, by simp [go_sem], by simp [go_sem]⟩
      | false =>
        rw [hzb] at hbad
        rw [if_neg (by simp)]
        by_cases hend : z.1 = 7 ∧ a < 0
        · rw [if_pos hend]
          have h7 : (z.1 : Int) = 7 := by omega
          simp (disch := omega) [go_sem, hb11, hb10, hbad, h7, hca1, hend.2]
          exact ⟨hF01, rfl, by simp [go_sem], by simp [go_sem], h1⟩
        · rw [if_neg hend]
          have hmode := modeF_ok (bits := strBits str) (before := before) (row := row) (w := w) (a := a) (x := x) (n := z.1) (p := z.2) ha hlt (by omega) (by omega)
          have hce : cellEqK (.i .i64) (.int .i64 (z.1 : Int)) (.int .i64 (z.1 : Int)) = some true := by simp [cellEqK]
          have hmf := mfind_modes z.1
          have haN : z.1 = 7 → ¬ a < 0 := fun h1 h2 => hend ⟨h1, h2⟩
          have tail : ∀ (e1 : Env) (Q : Ex → Env → St → Prop), True := fun _ _ => trivial
          by_cases h7 : (z.1 : Int) = 7
          · have ha0 : ¬ a < 0 := haN (by omega)
            have hz7 : z.1 = 7 := by omega
            rw [hz7] at hmf hce
            simp (disch := omega) [go_sem, hb11, hb10, hbad, h7, hca1, ha0]
            refine (modes_call H hF1.wf).mono ?_
            rintro v s2 ⟨hx2, nm, hnm, rfl, hmap⟩
            have hm1 : modeF (strBits str) before w row a x z.1 z.2 = (none, z.2) := by rw [hz7]; rfl
            rw [hm1]
            have hmf : mfind (.i .i64) (.int .i64 7) modeEs = some none := hmf
            have hce : cellEqK (.i .i64) (.int .i64 7) (.int .i64 7) = some true := hce
            simp (disch := omega) [go_sem, hmap, hce, hmf]
            exact ⟨hF01.trans (hx2.fr [c, r]) (by simp), rfl, by simp [go_sem], by simp [go_sem]⟩
          · simp (disch := omega) [go_sem, hb11, hb10, hbad, h7]
            refine (modes_call H hF1.wf).mono ?_
            rintro v s2 ⟨hx2, nm, hnm, rfl, hmap⟩
            by_cases h6 : z.1 < 6
            · rw [if_pos h6] at hmf
              have hbs2 := hx2.get hF1.wf hbs1
              have hbA2 := rd_all hbs2 (k := 2) rfl
              have hc2 := hx2.get hF1.wf hc1
              have hr2 := hx2.get hF1.wf h1
              simp (disch := omega) [go_sem, hmap, hce, hmf, hbA2]
              refine (mode_call H h6 hx2.wf hr hb hw hw' ha hlt hcr hs (p := z.2) (by omega) hc2 hr2).mono ?_
              generalize modeF (strBits str) before w row a x z.1 z.2 = mo at *
              obtain ⟨res, p'⟩ := mo
              rintro v s3 ⟨hF3, hr3, hM3⟩
              have hF03 : Frm [c, r] st s3 := (hF01.trans (hx2.fr []) (by simp)).trans hF3 (fun n hn => .inl hn)
              have hbs3 := hF3.get hx2.wf hbs2 (by simp [hbc, hbr])
              have hb31 : rdCell s3.h b 1 = some (.ptr r 0) := by simp [rdCell, hbs3]
              have hbad3 := rdrC_bad hr3
              simp only at hr3 hbad3 hmode ⊢
              cases res with
              | none =>
                simp only [ModeR] at hM3
                subst hM3
                simp (disch := omega) [go_sem]
                exact ⟨hF03, rfl, by simp [go_sem], by simp [go_sem]⟩
              | some t =>
                obtain ⟨row', a', x'⟩ := t
                simp only [ModeR] at hM3
                obtain ⟨rfl, hc3⟩ := hM3
                obtain ⟨m1, m2, m3⟩ := hmode.2.2 row' a' x' rfl
                cases hpb : p'.2 with
                | true =>
                  rw [hpb] at hbad3
                  simp only [hpb, if_true]
                  simp (disch := omega) [go_sem, hb31, hbad3]
                  exact ⟨hF03, rfl, by simp [go_sem], by simp [go_sem]⟩
                | false =>
                  rw [hpb] at hbad3
                  simp only [hpb, Bool.false_eq_true, if_false]
                  simp (disch := omega) [go_sem, hb31, hbad3]
                  refine (ih row' a' x' p' s3 _ (by omega) (by omega) m2 (by omega) (by omega) hF3.wf hbs3 hc3 hr3 ?_).mono ?_
                  · simp [go_sem]
                  · intro q e' s' h; exact h.trans hF03
            · rw [if_neg h6] at hmf
              have hm1 : modeF (strBits str) before w row a x z.1 z.2 = (none, z.2) := by
                unfold modeF
                split <;> first | omega | rfl
              rw [hm1]
              simp (disch := omega) [go_sem, hmap, hce, hmf]
              exact ⟨hF01.trans (hx2.fr [c, r]) (by simp), rfl, by simp [go_sem], by simp [go_sem]⟩
    · have hgo : decRowF (strBits str) before w (k + 1) row a x p = .go row a x p := by rw [decRowF, if_neg hlt]
      rw [hgo]
      simp (disch := omega) [B.fax_filler_next_l0, go_sem, g1, hb0, hb1, hca, hcw, hlt]
      exact ⟨hx0.fr _, rfl, hrd, hc⟩

/-- What next answers. -/
def NextR (st s : St) (c tc : Nat) (lc : Bool) (r tr : Nat) (lr : Bool) (str : List UInt8) (before : List Bool) (w : Int) (d : DR) (v : AV) : Prop :=
  Frm [c, r] st s ∧ match d with
  | .fail => v = .tuple [.bool false, .bool false]
  | .fin p => v = .tuple [.bool true, .bool false] ∧ hget s.h r = some (.cells tr lr (rdrC str p))
  | .go row a x p => v = .tuple [.bool false, .bool true] ∧ hget s.h r = some (.cells tr lr (rdrC str p)) ∧ hget s.h c = some (.cells tc lc (coderCells row before w a x))

theorem next_call (H : B.HasFax T) {k : Nat} (hk : 200 ≤ k) (hwf : st.Wf) (hr : row.length = 128) (hb : before.length = 128) (hw : 1 ≤ w) (hw' : w ≤ 128) (hcr : c ≠ r) (hs : str.length ≤ 100000) (hp : p.1 ≤ 8 * str.length)
    (hc : hget st.h c = some (.cells tc lc (coderCells row before w a x))) (hrd : hget st.h r = some (.cells tr lr (rdrC str p))) :
    CRes (call T (.fn 23 [] []) [.agg [.ptr c 0, .ptr r 0]] st) fun v s => NextR st s c tc lc r tr lr str before w (decRowF (strBits str) before w k white (-1) false p) v := by
  refine call_res H.e23 H.f23 rfl ?_
  have hlt := hwf.lt _ _ hc
  have hltr := hwf.lt _ _ hrd
  have hx := Ext.new hwf (.cells 73 true [.ptr c 0, .ptr r 0])
  obtain ⟨h1, hh1⟩ : ∃ h1, h1 = (st.nx, AObj.cells 73 true [.ptr c 0, .ptr r 0]) :: st.h := ⟨_, rfl⟩
  have hbx : hget h1 st.nx = some (.cells 73 true [.ptr c 0, .ptr r 0]) := by rw [hh1]; simp [hget_cons]
  have hbx' : hget ((st.nx, AObj.cells 73 true [.ptr c 0, .ptr r 0]) :: st.h) st.nx = some (.cells 73 true [.ptr c 0, .ptr r 0]) := by simp [hget_cons]
  have hb0 : rdCell ((st.nx, AObj.cells 73 true [.ptr c 0, .ptr r 0]) :: st.h) st.nx 0 = some (.ptr c 0) := by simp [rdCell, hbx']
  have hc1 := hx.get hwf hc
  have hwl : (List.replicate 128 (AV.bool false)).length = 128 := List.length_replicate
  have hwr := wr_part hc1 (o := 0) (vs := List.replicate 128 (AV.bool false)) (by rw [cc_len hr hb, hwl]; omega) (by rw [show List.replicate 128 (AV.bool false) = bools white by simp only [bools, white, List.map_replicate]]; exact bools_sc _)
  rw [show splice (coderCells row before w a x) 0 (List.replicate 128 (AV.bool false)) = coderCells white before w a x by
    rw [show List.replicate 128 (AV.bool false) = bools white by simp only [bools, white, List.map_replicate]]; exact cc_put_row hr white_length hb] at hwr
  have hS := Frm.set (o := .cells tc lc (coderCells white before w a x)) hx.wf hc1
  obtain ⟨h2, hh2⟩ : ∃ h2, h2 = hset ((st.nx, AObj.cells 73 true [.ptr c 0, .ptr r 0]) :: st.h) c (.cells tc lc (coderCells white before w a x)) := ⟨_, rfl⟩
  rw [← hh2] at hwr hS
  have hc2 : hget h2 c = some (.cells tc lc (coderCells white before w a x)) := by rw [hh2, hget_hset hc1, if_pos rfl]
  have hbs2 := hS.get hx.wf hbx' (by simp; omega)
  have hb20 : rdCell h2 st.nx 0 = some (.ptr c 0) := by simp [rdCell, hbs2]
  have hwr3 := wr_cells (o := 257) (v := .int .i64 (-1)) hc2 rfl (by rw [cc_len white_length hb]; omega)
  rw [cc_set_at white_length hb] at hwr3
  have hS3 := Frm.set (st := ⟨h2, st.nx + 1⟩) (o := .cells tc lc (coderCells white before w (-1) x)) hS.wf hc2
  obtain ⟨h3, hh3⟩ : ∃ h3, h3 = hset h2 c (.cells tc lc (coderCells white before w (-1) x)) := ⟨_, rfl⟩
  rw [← hh3] at hwr3 hS3
  have hc3 : hget h3 c = some (.cells tc lc (coderCells white before w (-1) x)) := by rw [hh3, hget_hset hc2, if_pos rfl]
  have hbs3 := hS3.get hS.wf hbs2 (by simp; omega)
  have hb30 : rdCell h3 st.nx 0 = some (.ptr c 0) := by simp [rdCell, hbs3]
  have hwr4 := wr_cells (o := 258) (v := .bool false) hc3 rfl (by rw [cc_len white_length hb]; omega)
  rw [cc_set_black white_length hb] at hwr4
  have hS4 := Frm.set (st := ⟨h3, st.nx + 1⟩) (o := .cells tc lc (coderCells white before w (-1) false)) hS3.wf hc3
  obtain ⟨h4, hh4⟩ : ∃ h4, h4 = hset h3 c (.cells tc lc (coderCells white before w (-1) false)) := ⟨_, rfl⟩
  rw [← hh4] at hwr4 hS4
  have hc4 : hget h4 c = some (.cells tc lc (coderCells white before w (-1) false)) := by rw [hh4, hget_hset hc3, if_pos rfl]
  have hbs4 := hS4.get hS3.wf hbs3 (by simp; omega)
  have hF4 : Frm [c] st ⟨h4, st.nx + 1⟩ := ((((hx.fr [c]).trans hS (by simp)).trans hS3 (by simp)).trans hS4 (by simp))
  have hr4 := hF4.get hwf hrd (by simpa using fun h => hcr h.symm)
  simp (disch := omega) [B.fax_filler_next, go_sem, hb0, hwl, hwr, hb20, hwr3, hb30, hwr4, -List.reduceReplicate]
  refine ⟨by simp [reI, dfind, wanted, go_sem, hb30], ?_⟩
  have hF5 : Frm [c] st ⟨h4, st.nx + 1 + 11⟩ := Frm.upTo (n := st.nx + 1) hF4 (by omega)
  refine (next_loop (b := st.nx) H hb hw hw' hcr (by omega) (by omega) hs k white (-1) false p ⟨_, _⟩ _ (by omega) (by omega) (by omega) white_length hp hF5.wf hbs4 hc4 hr4 ?_).mono ?_
  · simp [go_sem]
  rintro q e' s ⟨f1, f2⟩
  have hFA : Frm [c, r] st s := ((hF5.mono (R := [c, r]) (by simp)).trans f1 (fun n hn => .inl hn))
  generalize decRowF (strBits str) before w k white (-1) false p = d at *
  cases d with
  | fail =>
    obtain ⟨rfl, g2, g3⟩ := f2
    simp [go_sem, g2, g3]
    exact ⟨hFA.dropLoc, rfl⟩
  | fin p' =>
    obtain ⟨rfl, g2, g3, g4⟩ := f2
    simp [go_sem, g2, g3]
    exact ⟨hFA.dropLoc, rfl, by show hget (dropLoc _ _) _ = _; rw [hget_dropLoc_lt hltr]; exact g4⟩
  | go row' a' x' p' =>
    obtain ⟨rfl, g4, g5⟩ := f2
    simp [go_sem]
    exact ⟨hFA.dropLoc, rfl, by show hget (dropLoc _ _) _ = _; rw [hget_dropLoc_lt hltr]; exact g4, by show hget (dropLoc _ _) _ = _; rw [hget_dropLoc_lt hlt]; exact g5⟩
end

end Go.Ev

/- Decode: what the program makes of a code. -/
namespace Go.Ev
open Go
set_option linter.unusedSimpArgs false
set_option linter.unusedVariables false

variable {T : Tab} {st : St}

/-- The bits that a row is written as. -/
def rowOut (w : Nat) (row : List Bool) : List Bool := (List.range (8 * ((w + 7) / 8))).map fun i => decide (i < w) && row.getD i false
theorem rowOut_length (w : Nat) (row : List Bool) : (rowOut w row).length = 8 * ((w + 7) / 8) := by simp [rowOut]
theorem rowOut_drop {w : Nat} {row : List Bool} {i : Nat} (h : i < 8 * ((w + 7) / 8)) : (rowOut w row).drop i = (decide (i < w) && row.getD i false) :: (rowOut w row).drop (i + 1) := by
  have hl := rowOut_length w row
  rw [List.drop_eq_getElem_cons (by omega)]
  congr 1
  simp [rowOut]

section
variable {row before : List Bool} {a : Int} {x : Bool} {w n c r o b ty tc : Nat} {loc lc : Bool} {tr : Nat} {lr : Bool} {str : List UInt8} {p : Nat × Bool}

theorem out_loop (H : B.HasFax T) (hr : row.length = 128) (hb : before.length = 128) (hw : 1 ≤ w) (hw' : w ≤ 128) (hn : n = (w + 7) / 8) (hco : c ≠ o) (hbo : b ≠ o) (hbc : b ≠ c) {u9 : AV} : ∀ (m i : Nat) (st : St) (nm : Nat) (v : AV) (L : List Bool) (e : Env), i + m = 8 * n → st.Wf →
    WriterAt st o nm ty loc v L → c ≠ nm → b ≠ nm → hget st.h c = some (.cells tc lc (coderCells row before w a x)) → hget st.h b = some (.cells 73 true [.ptr c 0, .ptr r 0]) → L.length + m < 1000000000 →
    eget e 1 = .int .i64 w → eget e 7 = .ptr b 0 → eget e 8 = .ptr o 0 → eget e 9 = u9 → eget e 49 = .int .i64 (8 * n : Nat) → eget e 50 = .int .i64 i →
    Res (run T (.loop B.fax_Decode_l0) e st) fun q e' s => q = .exit 2 ∧ Wrote st s o nm ty loc (L ++ (rowOut w row).drop i) ∧ Frm [o, nm] st s ∧ eget e' 1 = .int .i64 w ∧ eget e' 7 = .ptr b 0 ∧ eget e' 8 = .ptr o 0 ∧ eget e' 9 = u9 := by
  intro m
  induction m with
  | zero =>
    intro i st nm v L e hi hwf hW hcn hbn hc hbx hlen g1 g7 g8 g9 g49 g50
    have hil : ¬ (i : Int) < 8 * n := by omega
    have hd : (rowOut w row).drop i = [] := List.drop_eq_nil_of_le (by rw [rowOut_length]; omega)
    rw [hd, run_loop]
    simp (disch := omega) [B.fax_Decode_l0, go_sem, g1, g7, g8, g9, g49, g50, hil]
    exact ⟨⟨nm, v, hW, .inl rfl⟩, .refl hwf _⟩
  | succ m ih =>
    intro i st nm v L e hi hwf hW hcn hbn hc hbx hlen g1 g7 g8 g9 g49 g50
    have hil : (i : Int) < 8 * n := by omega
    have hb0 : rdCell st.h b 0 = some (.ptr c 0) := by simp [rdCell, hbx]
    rw [rowOut_drop (by omega), run_loop]
    obtain ⟨M, hM⟩ : ∃ M, M = (decide (i < w) && row.getD i false) :: (rowOut w row).drop (i + 1) := ⟨_, rfl⟩
    rw [← hM]
    have tail : ∀ (s' : St) (n' : Nat) (v' : AV) (y : Bool) (e' : Env), (decide (i < w) && row.getD i false) = y → WriterAt s' o n' ty loc v' (L ++ pairBits [(y.toNat, 1)]) → (n' = nm ∨ st.nx ≤ n') → Frm [o, nm] st s' →
        eget e' 1 = .int .i64 w → eget e' 7 = .ptr b 0 → eget e' 8 = .ptr o 0 → eget e' 9 = u9 → eget e' 49 = .int .i64 (8 * n : Nat) → eget e' 50 = .int .i64 (i + 1 : Nat) →
        Res (run T (.loop B.fax_Decode_l0) e' s') fun q e' s => q = .exit 2 ∧ Wrote st s o nm ty loc (L ++ M) ∧ Frm [o, nm] st s ∧ eget e' 1 = .int .i64 w ∧ eget e' 7 = .ptr b 0 ∧ eget e' 8 = .ptr o 0 ∧ eget e' 9 = u9 := by
      intro s' n' v' y e' hy hW' hn' hF' k1 k7 k8 k9 k49 k50
      rw [hM, hy]
      have hpb : pairBits [(y.toNat, 1)] = [y] := by cases y <;> rfl
      rw [hpb] at hW'
      have hcn' : c ≠ n' := by
        rcases hn' with h | h
        · rw [h]; exact hcn
        · have := hwf.lt _ _ hc; omega
      have hbn' : b ≠ n' := by
        rcases hn' with h | h
        · rw [h]; exact hbn
        · have := hwf.lt _ _ hbx; omega
      refine (ih (i + 1) s' n' v' (L ++ [y]) e' (by omega) hF'.wf hW' hcn' hbn' (hF'.get hwf hc (by simp [hco, hcn])) (hF'.get hwf hbx (by simp [hbo, hbn])) (by simp; omega) k1 k7 k8 k9 k49 k50).mono ?_
      rintro q e2 s2 ⟨rfl, h1, h2, h3⟩
      refine ⟨rfl, ?_, hF'.grow h2 (by simp) (by simp) hn', h3⟩
      rw [List.append_assoc] at h1
      exact h1.trans hF'.nx hn'
    have hx3 : ∀ y : Bool, Ext st ⟨(st.nx, .cells 62 false (pairCells [(y.toNat, 1)])) :: st.h, st.nx + 1⟩ := fun y => Ext.new hwf _
    have hon := hwf.lt _ _ hW.at'
    have hnn := hW.lt
    have finish : ∀ y : Bool, (decide (i < w) && row.getD i false) = y → ∀ Q : AV → St → Prop, (∀ s' n' v', WriterAt s' o n' ty loc v' (L ++ pairBits [(y.toNat, 1)]) → (n' = nm ∨ st.nx ≤ n') → Frm [o, nm] st s' → Q (.tuple []) s') →
        CRes (call T (.fn 18 [] []) [.ptr o 0, .slice st.nx 0 1 (.known 1)] ⟨(st.nx, .cells 62 false [.int .i64 (y.toNat : Nat), .int .i64 1]) :: st.h, st.nx + 1⟩) Q := by
      intro y hy Q hQ
      refine put_use (st := ⟨_, _⟩) (l := [(y.toNat, 1)]) (n := nm) H rfl (by cases y <;> simp) (by simp) (hx3 y).wf (hW.ext hwf (hx3 y)) (p := st.nx) (tp := 62) (lp := false) (by simp [hget_cons, pairCells]) (by omega) (by omega) (by simp [pairBits, bitsMS_length]; omega) ?_
      intro s' n' v' h1 h2 h3
      exact hQ s' n' v' h1 (h2.imp id fun h => Nat.le_trans (Nat.le_succ _) h) (((hx3 y).fr [o, nm]).trans h3 (fun n hn => .inl hn))
    by_cases hiw : i < w
    · have hiw' : (i : Int) < w := by omega
      have hi2 : 0 ≤ (i : Int) ∧ (i : Int) < 128 := by omega
      have grow' := cc_row (row := row) (before := before) (wide := w) (at' := a) (black := x) hr hb (i := i) (by omega)
      have hcr' : rdCell st.h c i = some (.bool (row.getD i false)) := by simp only [rdCell]; rw [hc]; exact grow'
      have hyy : (decide (i < w) && row.getD i false) = row.getD i false := by rw [decide_eq_true hiw, Bool.true_and]
      generalize row.getD i false = y at *
      cases y with
      | true =>
        simp (disch := omega) [B.fax_Decode_l0, go_sem, g1, g7, g8, g9, g49, g50, hil, hiw', hb0, hi2, hcr']
        refine finish true hyy _ fun s' n' v' h1 h2 h3 => ?_
        simp (disch := omega) [go_sem, wrap64]
        refine tail s' n' v' true _ hyy h1 h2 h3 ?_ ?_ ?_ ?_ ?_ ?_
        · simp [go_sem]
        · simp [go_sem]
        · simp [go_sem]
        · simp [go_sem]
        · simp [go_sem]
        · simp [go_sem]
      | false =>
        simp (disch := omega) [B.fax_Decode_l0, go_sem, g1, g7, g8, g9, g49, g50, hil, hiw', hb0, hi2, hcr']
        refine finish false hyy _ fun s' n' v' h1 h2 h3 => ?_
        simp (disch := omega) [go_sem, wrap64]
        refine tail s' n' v' false _ hyy h1 h2 h3 ?_ ?_ ?_ ?_ ?_ ?_
        · simp [go_sem]
        · simp [go_sem]
        · simp [go_sem]
        · simp [go_sem]
        · simp [go_sem]
        · simp [go_sem]
    · have hiw' : ¬ (i : Int) < w := by omega
      simp (disch := omega) [B.fax_Decode_l0, go_sem, g1, g7, g8, g9, g49, g50, hil, hiw', hb0]
      have hyy : (decide (i < w) && row.getD i false) = false := by rw [decide_eq_false hiw, Bool.false_and]
      refine finish false hyy _ fun s' n' v' h1 h2 h3 => ?_
      simp (disch := omega) [go_sem, wrap64]
      refine tail s' n' v' false _ hyy h1 h2 h3 ?_ ?_ ?_ ?_ ?_ ?_
      · simp [go_sem]
      · simp [go_sem]
      · simp [go_sem]
      · simp [go_sem]
      · simp [go_sem]
      · simp [go_sem]

theorem rb_ok {bits : List Bool} {p : Nat × Bool} (h : (rb bits p).2.2 = false) : (rb bits p).2.1 = p.1 + 1 ∧ p.1 < bits.length := by
  unfold rb at h ⊢
  split
  · rename_i h1; exact ⟨rfl, h1⟩
  · rename_i h1; rw [if_neg h1] at h; cases h

theorem zF_ok {bits : List Bool} {f : Nat} {p : Nat × Bool} (h : (zF bits (f + 1) 0 p).2.2 = false) (hp : p.1 ≤ bits.length) : p.1 < (zF bits (f + 1) 0 p).2.1 := by
  simp only [zF] at h ⊢
  have h1 := rb_le hp
  split
  · rename_i h2
    have h3 := rb_ok h2.2
    have h4 := zF_le (bits := bits) f 1 (rb bits p).2 h1.1
    simp only [Nat.zero_add]
    omega
  · rename_i h2
    rw [if_neg h2] at h
    have h3 := rb_ok h
    simp only
    omega

theorem stepF_go {bits before : List Bool} {w a : Int} {row row' : List Bool} {x x' : Bool} {a' : Int} {p p' : Nat × Bool} (ha : -1 ≤ a) (haw : a < w) (hw : 1 ≤ w) (hp : p.1 ≤ bits.length) (h : stepF bits before w row a x p = .go row' a' x' p') :
    p.1 < p'.1 ∧ p'.1 ≤ bits.length ∧ p'.2 = false ∧ a < a' ∧ a' ≤ w ∧ row'.length = row.length := by
  unfold stepF at h
  split at h
  · cases h
  · rename_i hb
    have hb : (zF bits 8 0 p).2.2 = false := by simpa using hb
    have hz : p.1 < (zF bits 8 0 p).2.1 := zF_ok (f := 7) hb hp
    have hzl := zF_le (bits := bits) 8 0 p hp
    split at h
    · cases h
    · have hm := modeF_ok (bits := bits) (before := before) (row := row) (w := w) (a := a) (x := x) (n := (zF bits 8 0 p).1) (p := (zF bits 8 0 p).2) ha haw hw hzl.1
      split at h
      · rename_i r1 a1 x1 p1 heq
        rw [heq] at hm
        split at h
        · cases h
        · rename_i hb1
          simp only [DR.go.injEq] at h
          obtain ⟨rfl, rfl, rfl, rfl⟩ := h
          obtain ⟨m1, m2, m3⟩ := hm
          obtain ⟨k1, k2, k3⟩ := m3 _ _ _ rfl
          simp only at m1 m2
          exact ⟨by omega, m1, by simpa using hb1, k1, k2, k3⟩
      · cases h

theorem stepF_fin {bits before : List Bool} {w a : Int} {row : List Bool} {x : Bool} {p p' : Nat × Bool} (hp : p.1 ≤ bits.length) (h : stepF bits before w row a x p = .fin p') : p'.1 ≤ bits.length ∧ p'.2 = false := by
  unfold stepF at h
  split at h
  · cases h
  · rename_i hb
    split at h
    · simp only [DR.fin.injEq] at h
      subst h
      exact ⟨(zF_le 8 0 p hp).1, by simpa using hb⟩
    · split at h
      · split at h <;> cases h
      · cases h

theorem decRowF_ok {bits before : List Bool} {w : Int} (hw : 1 ≤ w) : ∀ (k : Nat) (row : List Bool) (a : Int) (x : Bool) (p : Nat × Bool), -1 ≤ a → a ≤ w → p.1 ≤ bits.length → p.2 = false →
    (∀ p', decRowF bits before w k row a x p = .fin p' → p'.1 ≤ bits.length ∧ p'.2 = false) ∧
    (∀ row' a' x' p', decRowF bits before w k row a x p = .go row' a' x' p' → (a < w → p.1 < p'.1) ∧ p.1 ≤ p'.1 ∧ p'.1 ≤ bits.length ∧ p'.2 = false ∧ row'.length = row.length)
  | 0, row, a, x, p, _, _, _, _ => ⟨(fun p' h => by cases h), (fun _ _ _ _ h => by cases h)⟩
  | k + 1, row, a, x, p, ha, haw, hp, hpf => by
    simp only [decRowF]
    by_cases hlt : a < w
    · rw [if_pos hlt]
      cases hs : stepF bits before w row a x p with
      | fail => exact ⟨(fun p' h => by cases h), (fun _ _ _ _ h => by cases h)⟩
      | fin q =>
        refine ⟨fun p' h => ?_, fun _ _ _ _ h => by cases h⟩
        simp only [DR.fin.injEq] at h
        subst h
        exact stepF_fin hp hs
      | go row1 a1 x1 p1 =>
        obtain ⟨h1, h2, h3, h4, h5, h6⟩ := stepF_go ha hlt hw hp hs
        have ih := decRowF_ok (before := before) hw k row1 a1 x1 p1 (by omega) h5 h2 h3
        refine ⟨ih.1, fun row' a' x' p' h => ?_⟩
        obtain ⟨_, i2, i3, i4, i5⟩ := ih.2 row' a' x' p' h
        exact ⟨fun _ => by omega, by omega, i3, i4, by omega⟩
    · rw [if_neg hlt]
      refine ⟨fun p' h => (by cases h), fun row' a' x' p' h => ?_⟩
      simp only [DR.go.injEq] at h
      obtain ⟨rfl, rfl, rfl, rfl⟩ := h
      exact ⟨fun h => absurd h hlt, Nat.le_refl _, hp, hpf, rfl⟩

/-- The rows of a code. -/
def decAll (bits : List Bool) (w : Nat) : Nat → List Bool → Nat × Bool → Option (List (List Bool) × (Nat × Bool))
  | 0, _, _ => none
  | k + 1, before, p => match decRowF bits before w 200 white (-1) false p with
    | .fail => none
    | .fin p' => some ([], p')
    | .go row _ _ p' => (decAll bits w k row p').map fun t => (row :: t.1, t.2)

/-- What the rows' loop leaves. -/
def DecL (st s : St) (o nm ty : Nat) (loc : Bool) (c r tr b : Nat) (lr : Bool) (str : List UInt8) (w n rows : Nat) (L : List Bool) (d : Option (List (List Bool) × (Nat × Bool))) (q : Ex) (e : Env) : Prop :=
  Frm [o, nm, c, r] st s ∧ match d with
  | none => q = .ret ∧ eget e 4 = .str [] ∧ eget e 5 = .int .i64 0 ∧ eget e 6 = .int .i64 5
  | some (rs, p) => q = .exit 0 ∧ eget e 1 = .int .i64 w ∧ eget e 7 = .ptr b 0 ∧ eget e 8 = .ptr o 0 ∧ eget e 9 = .int .i64 (rows + rs.length : Nat) ∧ hget s.h r = some (.cells tr lr (rdrC str p)) ∧
    ∃ M, Wrote st s o nm ty loc (L ++ M) ∧ ((rows + rs.length) * n ≤ 65536 → M = rs.flatMap (rowOut w))

theorem DecL.step {s s' : St} {nm nm' rows : Nat} {L R : List Bool} {row : List Bool} {d : Option (List (List Bool) × (Nat × Bool))} {q : Ex} {e : Env} (f : Frm [o, nm, c, r] st s) (hn : nm' = nm ∨ st.nx ≤ nm')
    (h : DecL s s' o nm' ty loc c r tr b lr str w n (rows + 1) (L ++ R) d q e) (hR : (rows + 1) * n ≤ 65536 → R = rowOut w row) :
    DecL st s' o nm ty loc c r tr b lr str w n rows L (d.map fun t => (row :: t.1, t.2)) q e := by
  obtain ⟨h1, h2⟩ := h
  refine ⟨f.trans h1 ?_, ?_⟩
  · intro k hk
    simp at hk
    rcases hk with rfl | rfl | rfl | rfl
    · simp
    · rcases hn with h | h
      · simp [h]
      · exact .inr h
    · simp
    · simp
  · cases d with
    | none => exact h2
    | some t =>
      obtain ⟨rs, p⟩ := t
      obtain ⟨k1, k2, k3, k4, k5, k6, M, k7, k8⟩ := h2
      refine ⟨k1, k2, k3, k4, by rw [k5]; simp only [List.length_cons]; congr 2; omega, k6, R ++ M, ?_, ?_⟩
      · rw [List.append_assoc] at k7
        exact k7.trans f.nx hn
      · intro hle
        simp only [List.length_cons] at hle
        have e1 : rows + (rs.length + 1) = rows + 1 + rs.length := by omega
        rw [e1] at hle
        have hle1 : (rows + 1) * n ≤ 65536 := Nat.le_trans (Nat.mul_le_mul_right _ (by omega)) hle
        rw [hR hle1, k8 hle]
        rfl

theorem decode_l1 (H : B.HasFax T) (hw : 1 ≤ w) (hw' : w ≤ 128) (hn : n = (w + 7) / 8) (hco : c ≠ o) (hbo : b ≠ o) (hbc : b ≠ c) (hcr : c ≠ r) (hbr : b ≠ r) (hro : r ≠ o) (hs : str.length ≤ 65536) : ∀ (k rows : Nat) (before : List Bool) (row : List Bool) (a : Int) (x : Bool) (p : Nat × Bool) (st : St) (nm : Nat) (v : AV) (L : List Bool) (e : Env),
    8 * str.length < p.1 + k → before.length = 128 → row.length = 128 → p.1 ≤ 8 * str.length → p.2 = false → rows ≤ p.1 → L.length ≤ 8 * (rows * n) → st.Wf → WriterAt st o nm ty loc v L → c ≠ nm → b ≠ nm → r ≠ nm →
    hget st.h c = some (.cells tc lc (coderCells row before w a x)) → hget st.h b = some (.cells 73 true [.ptr c 0, .ptr r 0]) → hget st.h r = some (.cells tr lr (rdrC str p)) →
    eget e 1 = .int .i64 w → eget e 7 = .ptr b 0 → eget e 8 = .ptr o 0 → eget e 9 = .int .i64 rows →
    Res (run T (.loop B.fax_Decode_l1) e st) fun q e' s => DecL st s o nm ty loc c r tr b lr str w n rows L (decAll (strBits str) w k before p) q e' := by
  intro k
  induction k with
  | zero => intro rows before row a x p st nm v L e hk; omega
  | succ k ih =>
    intro rows before row a x p st nm v L e hk hb hr hp hpf hrows hL hwf hW hcn hbn hrn hc hbx hrd g1 g7 g8 g9
    have hbl := strBits_length str
    have hbA := rd_all hbx (k := 2) rfl
    have hoct := fun {s : St} (h : s.Wf) => octets_tells (T := T) H h (w := (w : Int)) (by omega) (by omega)
    have hdr := decRowF_ok (bits := strBits str) (before := before) (w := (w : Int)) (by omega) 200 white (-1) false p (by omega) (by omega) (by omega) hpf
    have t1 := next_call (T := T) H (k := 200) (by omega) hwf hr hb (w := (w : Int)) (by omega) (by omega) hcr (by omega) hp hc hrd
    rw [run_loop]
    simp only [decAll]
    simp (disch := omega) [B.fax_Decode_l1, go_sem, g1, g7, g8, g9, hbA]
    refine t1.mono ?_
    rintro v1 s1 ⟨hF1, h1⟩
    have hF1' : Frm [o, nm, c, r] st s1 := hF1.mono (by simp)
    generalize decRowF (strBits str) before (w : Int) 200 white (-1) false p = d at *
    cases d with
    | fail =>
      subst h1
      simp (disch := omega) [go_sem]
      exact ⟨hF1', rfl, by simp [go_sem], by simp [go_sem], by simp [go_sem]⟩
    | fin p' =>
      obtain ⟨rfl, hr1⟩ := h1
      simp (disch := omega) [go_sem]
      refine ⟨hF1', rfl, by simp [go_sem], by simp [go_sem], by simp [go_sem], by simp [go_sem], hr1, [], ?_, fun _ => rfl⟩
      rw [List.append_nil]
      refine ⟨nm, v, ⟨hF1.get hwf hW.at' (by simp [hco.symm, hro.symm]), hW.sl.frm hF1 hwf (by simp [hcn.symm, hrn.symm]), hW.ne, Nat.lt_of_lt_of_le hW.lt hF1.nx⟩ , .inl rfl⟩
    | go row1 a1 x1 p1 =>
      obtain ⟨rfl, hr1, hc1⟩ := h1
      obtain ⟨d1, d2, d3, d4, d5⟩ := hdr.2 _ _ _ _ rfl
      have hprod : (rows + 1) * n = rows * n + n := by rw [Nat.add_mul, Nat.one_mul]
      have hmul : rows * n ≤ 524288 * 16 := Nat.mul_le_mul (by omega) (by omega)
      have hbs1 := hF1.get hwf hbx (by simp [hbc, hbr])
      have hW1 : WriterAt s1 o nm ty loc v L := ⟨hF1.get hwf hW.at' (by simp [hco.symm, hro.symm]), hW.sl.frm hF1 hwf (by simp [hcn.symm, hrn.symm]), hW.ne, Nat.lt_of_lt_of_le hW.lt hF1.nx⟩
      have hl1 : row1.length = 128 := by rw [d5, white_length]
      have hcl := hwf.lt _ _ hc
      have hrl := hwf.lt _ _ hrd
      have hbl2 := hwf.lt _ _ hbx
      have hF1n := hF1.nx
      have o1 := hoct hF1.wf
      rw [show ((w : Int) + 7) / 8 = (n : Nat) by omega] at o1
      have hpc : ((rows : Int) + 1) * (n : Int) = (((rows + 1) * n : Nat) : Int) := by push_cast; rfl
      simp (disch := omega) [go_sem, wrap64]
      refine o1.use fun s2 hs2 => ?_
      have hbs2 := hs2.get hF1.wf hbs1
      have hc2 := hs2.get hF1.wf hc1
      have hr2 := hs2.get hF1.wf hr1
      have hW2 := hW1.ext hF1.wf hs2
      have hF2 : Frm [o, nm, c, r] st s2 := hF1'.trans (hs2.fr []) (by simp)
      have tail : ∀ (s3 : St) (nm3 : Nat) (v3 : AV) (R : List Bool) (e3 : Env), WriterAt s3 o nm3 ty loc v3 (L ++ R) → (nm3 = nm ∨ st.nx ≤ nm3) → Frm [o, nm, c, r] st s3 → hget s3.h b = some (.cells 73 true [.ptr c 0, .ptr r 0]) → hget s3.h c = some (.cells tc lc (coderCells row1 before w a1 x1)) → hget s3.h r = some (.cells tr lr (rdrC str p1)) →
          R.length ≤ 8 * n → ((rows + 1) * n ≤ 65536 → R = rowOut w row1) → True := fun _ _ _ _ _ _ _ _ _ _ _ _ _ => trivial
      have tail2 : ∀ (h4 : Heap) (n4 nm3 : Nat) (v3 : AV) (R : List Bool) (e3 : Env), Frm [o, nm, c, r] st ⟨h4, n4⟩ → WriterAt ⟨h4, n4⟩ o nm3 ty loc v3 (L ++ R) → (nm3 = nm ∨ st.nx ≤ nm3) → hget h4 b = some (.cells 73 true [.ptr c 0, .ptr r 0]) → hget h4 c = some (.cells tc lc (coderCells row1 row1 w a1 x1)) → hget h4 r = some (.cells tr lr (rdrC str p1)) →
          R.length ≤ 8 * n → ((rows + 1) * n ≤ 65536 → R = rowOut w row1) → eget e3 1 = .int .i64 w → eget e3 7 = .ptr b 0 → eget e3 8 = .ptr o 0 → eget e3 9 = .int .i64 (rows + 1 : Nat) →
          Res (run T (.loop B.fax_Decode_l1) e3 ⟨h4, n4⟩) fun q e' s => DecL st s o nm ty loc c r tr b lr str w n rows L ((decAll (strBits str) w k row1 p1).map fun t => (row1 :: t.1, t.2)) q e' := by
        intro h4 n4 nm3 v3 R e3 f1 f2 f3 f4 f5 f6 f7 f8 f9 f10 f11 f12
        have hcn3 : c ≠ nm3 := by
          rcases f3 with h | h
          · rw [h]; exact hcn
          · omega
        have hbn3 : b ≠ nm3 := by
          rcases f3 with h | h
          · rw [h]; exact hbn
          · omega
        have hrn3 : r ≠ nm3 := by
          rcases f3 with h | h
          · rw [h]; exact hrn
          · omega
        refine (ih (rows + 1) row1 row1 a1 x1 p1 ⟨h4, n4⟩ nm3 v3 (L ++ R) e3 (by have := d1 (by omega); omega) hl1 hl1 (by omega) d4 (by have := d1 (by omega); omega) (by rw [List.length_append, hprod]; omega) f1.wf f2 hcn3 hbn3 hrn3 f5 f4 f6 f9 f10 f11 f12).mono ?_
        intro q e' s h
        exact DecL.step f1 f3 h f8
      have hle8 : (rowOut w row1).length ≤ 8 * n := by rw [rowOut_length]; omega
      by_cases hle : (rows + 1) * n ≤ 65536
      · have hle' : ((rows : Int) + 1) * (n : Int) ≤ 65536 := by rw [hpc]; omega
        have o2 := hoct hs2.wf
        rw [show ((w : Int) + 7) / 8 = (n : Nat) by omega] at o2
        have hw1 : IntKind.i64.wrap (((rows : Int) + 1) * (n : Int)) = ((rows : Int) + 1) * (n : Int) := wrap64 (by rw [hpc]; omega) (by rw [hpc]; omega)
        simp (disch := omega) [go_sem, hw1, hle']
        refine o2.use fun s3 hs3 => ?_
        have hbs3 := hs3.get hs2.wf hbs2
        have hc3 := hs3.get hs2.wf hc2
        have hr3 := hs3.get hs2.wf hr2
        have hW3 := hW2.ext hs2.wf hs3
        have hF3 : Frm [o, nm, c, r] st s3 := hF2.trans (hs3.fr []) (by simp)
        simp (disch := omega) [go_sem, wrap64]
        refine (out_loop (u9 := .int .i64 ((rows : Int) + 1)) (r := r) H hl1 hb hw hw' hn hco hbo hbc (8 * n) 0 s3 nm v L _ (by omega) hs3.wf hW3 hcn hbn hc3 hbs3 (by omega) ?_ ?_ ?_ ?_ ?_ ?_).mono ?_
        · simp [go_sem]
        · simp [go_sem]
        · simp [go_sem]
        · simp [go_sem]
        · simp [go_sem]
        · simp [go_sem]
        rintro q e4 s4 ⟨rfl, ⟨nm4, v4, hW4, hn4⟩, hF4, k1, k7, k8, k9⟩
        rw [List.drop_zero] at hW4
        have hn4' : nm4 = nm ∨ st.nx ≤ nm4 := hn4.imp id fun h => Nat.le_trans hF3.nx h
        have hbs4 := hF4.get hs3.wf hbs3 (by simp [hbo, hbn])
        have hc4 := hF4.get hs3.wf hc3 (by simp [hco, hcn])
        have hr4 := hF4.get hs3.wf hr3 (by simp [hro, hrn])
        have hb40 : rdCell s4.h b 0 = some (.ptr c 0) := by simp [rdCell, hbs4]
        have hrow4 := rd_part hc4 (o := 0) (k := 128) (by rw [cc_len hl1 hb]; omega)
        rw [cc_take_row hl1] at hrow4
        have hwr4 := wr_part hc4 (o := 128) (vs := bools row1) (by rw [cc_len hl1 hb, bools_len, hl1]; omega) (bools_sc _)
        rw [cc_put_before hl1 hl1 hb] at hwr4
        have hbl1 : (bools row1).length = 128 := by rw [bools_len, hl1]
        have hS := Frm.set (o := .cells tc lc (coderCells row1 row1 w a1 x1)) hF4.wf hc4
        have hS' := hS.upTo (m := s4.nx + 12) (by omega)
        have hF4' : Frm [o, nm, c, r] st s4 := hF3.trans hF4 (by simp)
        simp (disch := omega) [go_sem, k1, k7, k8, k9, hb40, hrow4, hwr4, hbl1]
        have hcn4 : c ≠ nm4 := by
          rcases hn4' with h | h
          · rw [h]; exact hcn
          · omega
        refine tail2 _ _ nm4 v4 (rowOut w row1) _ (hF4'.trans hS' (by simp)) ⟨hS'.get hF4.wf hW4.at' (by simpa using hco.symm), hW4.sl.frm hS' hF4.wf (by simpa using hcn4.symm), hW4.ne, Nat.lt_of_lt_of_le hW4.lt hS'.nx⟩ hn4' (hS'.get hF4.wf hbs4 (by simpa using hbc)) (by rw [hget_hset hc4, if_pos rfl]) (hS'.get hF4.wf hr4 (by simpa using hcr.symm)) hle8 (fun _ => rfl) ?_ ?_ ?_ ?_
        · simp [go_sem]
        · simp [go_sem]
        · simp [go_sem]
        · simp [go_sem]
      · have hle' : ¬ ((rows : Int) + 1) * (n : Int) ≤ 65536 := by rw [hpc]; omega
        have hw1 : IntKind.i64.wrap (((rows : Int) + 1) * (n : Int)) = ((rows : Int) + 1) * (n : Int) := wrap64 (by rw [hpc]; omega) (by rw [hpc]; omega)
        have hb20 : rdCell s2.h b 0 = some (.ptr c 0) := by simp [rdCell, hbs2]
        have hrow2 := rd_part hc2 (o := 0) (k := 128) (by rw [cc_len hl1 hb]; omega)
        rw [cc_take_row hl1] at hrow2
        have hwr2 := wr_part hc2 (o := 128) (vs := bools row1) (by rw [cc_len hl1 hb, bools_len, hl1]; omega) (bools_sc _)
        rw [cc_put_before hl1 hl1 hb] at hwr2
        have hbl1 : (bools row1).length = 128 := by rw [bools_len, hl1]
        have hS := Frm.set (o := .cells tc lc (coderCells row1 row1 w a1 x1)) hs2.wf hc2
        have hS' := hS.upTo (m := s2.nx + 12) (by omega)
        simp (disch := omega) [go_sem, hw1, hle', hb20, hrow2, hwr2, hbl1]
        refine tail2 _ _ nm v [] _ (hF2.trans hS' (by simp)) ⟨hS'.get hs2.wf (by simpa using hW2.at') (by simpa using hco.symm), by simpa using hW2.sl.frm hS' hs2.wf (by simpa using hcn.symm), hW2.ne, Nat.lt_of_lt_of_le hW2.lt hS'.nx⟩ (.inl rfl) (hS'.get hs2.wf hbs2 (by simpa using hbc)) (by rw [hget_hset hc2, if_pos rfl]) (hS'.get hs2.wf hr2 (by simpa using hcr.symm)) (by simp) (fun h => absurd h hle) ?_ ?_ ?_ ?_
        · simp [go_sem]
        · simp [go_sem]
        · simp [go_sem]
        · simp [go_sem]

/-- The bits up to the next octet, which are to be 0. -/
def padF (bits : List Bool) : Nat → Nat → Option Nat
  | 0, a => some a
  | k + 1, a => if a % 8 = 0 then some a else if bits.getD a false = true then none else padF bits k (a + 1)

/-- What the loop over the last bits leaves. -/
def PadL (st s : St) (r tr b : Nat) (lr : Bool) (str : List UInt8) (u1 u8 u9 : AV) (d : Option Nat) (q : Ex) (e : Env) : Prop :=
  Frm [r] st s ∧ match d with
  | none => q = .ret ∧ eget e 4 = .str [] ∧ eget e 5 = .int .i64 0 ∧ eget e 6 = .int .i64 5
  | some a => q = .exit 4 ∧ a % 8 = 0 ∧ a ≤ 8 * str.length ∧ hget s.h r = some (.cells tr lr (rdrC str (a, false))) ∧ eget e 1 = u1 ∧ eget e 7 = .ptr b 0 ∧ eget e 8 = u8 ∧ eget e 9 = u9

theorem decode_l2 (H : B.HasFax T) (hcr : c ≠ r) (hbr : b ≠ r) (hs : str.length ≤ 65536) {u1 u8 u9 : AV} : ∀ (k : Nat) (a : Nat) (st : St) (e : Env), (8 - a % 8) % 8 < k → a ≤ 8 * str.length → st.Wf → hget st.h b = some (.cells 73 true [.ptr c 0, .ptr r 0]) → hget st.h r = some (.cells tr lr (rdrC str (a, false))) →
    eget e 1 = u1 → eget e 7 = .ptr b 0 → eget e 8 = u8 → eget e 9 = u9 →
    Res (run T (.loop B.fax_Decode_l2) e st) fun q e' s => PadL st s r tr b lr str u1 u8 u9 (padF (strBits str) k a) q e' := by
  intro k
  induction k with
  | zero => intro a st e hk; omega
  | succ k ih =>
    intro a st e hk ha hwf hbx hrd g1 g7 g8 g9
    have hb1 : rdCell st.h b 1 = some (.ptr r 0) := by simp [rdCell, hbx]
    have hr1 : rdCell st.h r 1 = some (.int .i64 a) := by simp [rdCell, hrd, rdrC]
    have hd : (a : Int).tmod 8 = (a % 8 : Nat) := by rw [Int.tmod_eq_emod_of_nonneg (by omega)]; omega
    rw [run_loop]
    simp only [padF]
    by_cases h8 : a % 8 = 0
    · have h8' : (a : Int) % 8 = 0 := by omega
      rw [if_pos h8]
      simp (disch := omega) [B.fax_Decode_l2, go_sem, g1, g7, g8, g9, hb1, hr1, hd, h8']
      exact ⟨.refl hwf _, rfl, h8, ha, hrd, by simp [go_sem], by simp [go_sem], by simp [go_sem], by simp [go_sem]⟩
    · have h8' : ¬ (a : Int) % 8 = 0 := by omega
      have hlt : a < 8 * str.length := by omega
      rw [if_neg h8]
      have t1 := bit_call (T := T) H hwf (by omega) (p := (a, false)) ha hrd
      have hrb : rb (strBits str) (a, false) = ((strBits str).getD a false, (a + 1, false)) := by
        unfold rb
        rw [strBits_length, if_pos hlt]
      rw [hrb] at t1
      have hpad : (if (strBits str).getD a false = true then none else padF (strBits str) k (a + 1)) = (if (strBits str).getD a false = true then none else padF (strBits str) k (a + 1)) := rfl
      generalize hP : (if (strBits str).getD a false = true then none else padF (strBits str) k (a + 1)) = PP at *
      simp (disch := omega) [B.fax_Decode_l2, go_sem, g1, g7, g8, g9, hb1, hr1, hd, h8']
      refine t1.mono ?_
      rintro v s1 ⟨rfl, h1, hF1⟩
      generalize (strBits str).getD a false = x at *
      cases x with
      | true =>
        rw [if_pos rfl] at hP
        subst hP
        simp (disch := omega) [go_sem]
        exact ⟨hF1, rfl, by simp [go_sem], by simp [go_sem], by simp [go_sem]⟩
      | false =>
        rw [if_neg (by simp)] at hP
        subst hP
        have hbs1 := hF1.get hwf hbx (by simpa using hbr)
        simp (disch := omega) [go_sem]
        refine (ih (a + 1) s1 _ (by omega) (by omega) hF1.wf hbs1 h1 ?_ ?_ ?_ ?_).mono ?_
        · simp [go_sem]
        · simp [go_sem]
        · simp [go_sem]
        · simp [go_sem]
        rintro q e' s ⟨f1, f2⟩
        exact ⟨hF1.trans f1 (by simp), f2⟩

open B in
def decodeC : MFun := ⟨2, [.t 4, .t 5, .t 6], (.seq (.reg [⟨(some 4), none, .p (.mov (.k (.str [])))⟩, ⟨(some 5), none, .p (.mov (.k (.int .i64 0)))⟩, ⟨(some 6), none, .p (.mov (.k (.int .i64 0)))⟩]) (.seq (.seq (.reg [⟨(some 14), none, .p (.mov (.t 0))⟩, ⟨(some 15), none, .p (.lenOf true (.t 14))⟩, ⟨(some 16), none, .p (.bin .gtr (.t 15) (.k (.int .i64 65536)))⟩]) (.cond (.t 16) (.seq (.reg [⟨(some 4), none, .p (.mov (.k (.str [])))⟩, ⟨(some 5), none, .p (.mov (.k (.int .i64 0)))⟩, ⟨(some 6), none, .p (.mov (.k (.int .i64 3)))⟩]) .ret) .skip)) (.seq (.seq (.reg [⟨(some 17), none, .p (.mov (.t 1))⟩, ⟨(some 18), none, .p (.bin .lss (.t 17) (.k (.int .i64 1)))⟩, ⟨(some 19), none, .p (.mov (.t 18))⟩, ⟨(some 20), some (19, false), .p (.mov (.t 1))⟩, ⟨(some 21), some (19, false), .p (.bin .gtr (.t 20) (.k (.int .i64 128)))⟩, ⟨(some 22), none, .p (.pick (.t 19) (.k (.bool true)) (.t 21))⟩]) (.cond (.t 22) (.seq (.reg [⟨(some 4), none, .p (.mov (.k (.str [])))⟩, ⟨(some 5), none, .p (.mov (.k (.int .i64 0)))⟩, ⟨(some 6), none, .p (.mov (.k (.int .i64 2)))⟩]) .ret) .skip)) (.seq (.keep [0, 1]) (.seq (.reg [⟨(some 23), none, .p (.mov (.t 1))⟩, ⟨(some 24), none, .p (.build (coderCells white white 0 0 false) [(256, 1, (.t 23))])⟩, ⟨(some 25), none, .n (.box 58 false (.t 24))⟩, ⟨(some 26), none, .p (.mov (.t 0))⟩, ⟨(some 27), none, .p (.build [(.str []), (.int .i64 0), (.bool false)] [(0, 1, (.t 26))])⟩, ⟨(some 28), none, .n (.box 71 false (.t 27))⟩, ⟨(some 29), none, .p (.build [.nilptr, .nilptr] [(0, 1, (.t 25)), (1, 1, (.t 28))])⟩, ⟨(some 7), none, .n (.alloc 73 true [.nilptr, .nilptr])⟩, ⟨none, none, .w (.store 2 (.t 7) (.t 29))⟩]) (.seq (.keep [1, 7]) (.seq (.reg [⟨(some 30), none, .p (.build [.nilslice, (.int .i64 0)] [])⟩, ⟨(some 31), none, .n (.box 51 false (.t 30))⟩, ⟨(some 8), none, .p (.mov (.t 31))⟩, ⟨(some 9), none, .p (.mov (.k (.int .i64 0)))⟩]) (.seq (.block 0 (.loop fax_Decode_l1)) (.seq (.keep [1, 7, 8, 9]) (.seq (.block 4 (.loop fax_Decode_l2)) (.seq (.keep [1, 7, 8, 9]) (.seq (.seq (.reg [⟨(some 94), none, .p (.mov (.t 9))⟩, ⟨(some 95), none, .p (.mov (.t 1))⟩, ⟨(some 96), none, .w (.call (.k (.fn 16 [] [])) [(.t 95)])⟩, ⟨(some 97), none, .p (.bin .mul (.t 94) (.t 96))⟩, ⟨(some 98), none, .p (.bin .gtr (.t 97) (.k (.int .i64 65536)))⟩]) (.cond (.t 98) (.seq (.reg [⟨(some 4), none, .p (.mov (.k (.str [])))⟩, ⟨(some 5), none, .p (.mov (.k (.int .i64 0)))⟩, ⟨(some 6), none, .p (.mov (.k (.int .i64 3)))⟩]) .ret) .skip)) (.seq (.keep [7, 8]) (.seq (.regd [.op 0 ⟨(some 99), none, .p (.mov (.t 8))⟩, .op 1 ⟨(some 100), none, .p (.nilck (.t 99))⟩, .op 2 ⟨(some 101), none, .p (.faddr 0 (.t 100))⟩, .op 3 ⟨(some 102), none, .r (.load none (.t 101))⟩, .op 4 ⟨(some 103), none, .r (.b2s (.t 102))⟩, .op 5 ⟨(some 104), none, .p (.faddr 1 (.t 7))⟩, .op 6 ⟨(some 105), none, .r (.load none (.t 104))⟩, .op 7 ⟨(some 106), none, .p (.nilck (.t 105))⟩, .op 8 ⟨(some 107), none, .p (.faddr 1 (.t 106))⟩, .op 9 ⟨(some 108), none, .r (.load none (.t 107))⟩, .op 10 ⟨(some 109), none, .p (.bin .quo (.t 108) (.k (.int .i64 8)))⟩, .op 11 ⟨(some 4), none, .p (.mov (.t 103))⟩, .op 12 ⟨(some 5), none, .p (.mov (.t 109))⟩, .op 13 ⟨(some 6), none, .p (.mov (.k (.int .i64 0)))⟩]) .ret))))))))))))))⟩
set_option maxRecDepth 20000 in
theorem decodeC_eq : B.fax_Decode = decodeC := rfl

/-- What Decode answers: the octets, where the code ends, and the error. -/
def decSpec (s : List UInt8) (w : Int) : List UInt8 × Int × Int :=
  if 65536 < s.length then ([], 0, 3) else if w < 1 ∨ 128 < w then ([], 0, 2)
  else match decAll (strBits s) w.toNat (8 * s.length + 1) white (0, false) with
    | none => ([], 0, 5)
    | some (rs, p) => match padF (strBits s) 9 p.1 with
      | none => ([], 0, 5)
      | some a => if 65536 < rs.length * ((w.toNat + 7) / 8) then ([], 0, 3) else ((packN (rs.flatMap (rowOut w.toNat))).map UInt8.ofNat, (a / 8 : Nat), 0)

theorem decAll_ok {bits : List Bool} {w : Nat} (hw : 1 ≤ w) : ∀ (k : Nat) (before : List Bool) (p : Nat × Bool) (rs : List (List Bool)) (q : Nat × Bool), p.1 ≤ bits.length → p.2 = false → decAll bits w k before p = some (rs, q) → q.1 ≤ bits.length ∧ q.2 = false ∧ rs.length + p.1 ≤ bits.length
  | 0, _, _, _, _, _, _, h => by cases h
  | k + 1, before, p, rs, q, hp, hpf, h => by
    have hd := decRowF_ok (bits := bits) (before := before) (w := (w : Int)) (by omega) 200 white (-1) false p (by omega) (by omega) hp hpf
    simp only [decAll] at h
    split at h
    · cases h
    · rename_i p' heq
      simp only [Option.some.injEq, Prod.mk.injEq] at h
      obtain ⟨rfl, rfl⟩ := h
      have := hd.1 _ heq
      exact ⟨this.1, this.2, by simpa using hp⟩
    · rename_i row a x p' heq
      obtain ⟨d1, d2, d3, d4, d5⟩ := hd.2 _ _ _ _ heq
      cases h1 : decAll bits w k row p' with
      | none => rw [h1] at h; cases h
      | some t =>
        obtain ⟨rs', q'⟩ := t
        rw [h1] at h
        simp only [Option.map_some, Option.some.injEq, Prod.mk.injEq] at h
        obtain ⟨rfl, rfl⟩ := h
        have ih := decAll_ok hw k row p' rs' q' d3 d4 h1
        have := d1 (by omega)
        refine ⟨ih.1, ih.2.1, ?_⟩
        simp only [List.length_cons]
        omega

theorem decode_tells (H : B.HasFax T) (hwf : st.Wf) (h0 : 1 < st.nx) (s : List UInt8) (w : Int) (hs : s.length < 4611686018427387904) :
    Tells T st (.fn 11 [] []) [.str s, .int .i64 w] (.tuple [.str (decSpec s w).1, .int .i64 (decSpec s w).2.1, .int .i64 (decSpec s w).2.2]) := by
  refine tells_of H.e11 (decodeC_eq ▸ H.f11) rfl ?_
  generalize hV : decSpec s w = V
  unfold decSpec at hV
  by_cases hl : 65536 < s.length
  · have hl' : (65536 : Int) < s.length := by omega
    rw [if_pos hl] at hV
    simp (disch := omega) [decodeC, go_sem, hl', hl, Ext.refl hwf, ← hV]
  have hl' : ¬ (65536 : Int) < s.length := by omega
  rw [if_neg hl] at hV
  by_cases hw : w < 1
  · rw [if_pos (.inl hw)] at hV
    simp (disch := omega) [decodeC, go_sem, hl', hl, hw, Ext.refl hwf, ← hV]
  by_cases hw2 : 128 < w
  · rw [if_pos (.inr hw2)] at hV
    simp (disch := omega) [decodeC, go_sem, hl', hl, hw, hw2, Ext.refl hwf, ← hV]
  obtain ⟨w, rfl⟩ := Int.eq_ofNat_of_zero_le (show 0 ≤ w by omega)
  rw [if_neg (by omega)] at hV
  obtain ⟨n, hn⟩ : ∃ n, n = (w + 7) / 8 := ⟨_, rfl⟩
  simp only [Int.toNat_natCast] at hV
  rw [← hn] at hV
  have hw' : ¬ (w : Int) < 1 := hw
  have hcl : (coderCells white white 0 0 false).length = 259 := cc_len white_length white_length
  have hac : ∀ x y z, acells (.agg (coderCells white white x y z)) = coderCells white white x y z := fun _ _ _ => rfl
  simp (disch := omega) [decodeC, go_sem, hl', hw', hw2, hcl, cc_set_wide white_length white_length, hac, wrCells, hget_cons, hset_cons]
  obtain ⟨c, hc⟩ : ∃ c, c = st.nx := ⟨_, rfl⟩
  rw [← hc]
  obtain ⟨hh, hhh⟩ : ∃ hh : Heap, hh = (c + 1 + 1 + 1, AObj.cells 51 false [AV.nilslice, .int .i64 0]) :: (c + 1 + 1, .cells 73 true [.ptr c 0, .ptr (c + 1) 0]) :: (c + 1, .cells 71 false [.str s, .int .i64 0, .bool false]) :: (c, .cells 58 false (coderCells white white w 0 false)) :: st.h := ⟨_, rfl⟩
  rw [← hhh]
  have hx1 := Ext.new hwf (.cells 58 false (coderCells white white w 0 false))
  have hx2 := Ext.new hx1.wf (.cells 71 false [.str s, .int .i64 0, .bool false])
  have hx3 := Ext.new hx2.wf (.cells 73 true [.ptr c 0, .ptr (c + 1) 0])
  have hx4 := Ext.new hx3.wf (.cells 51 false [.nilslice, .int .i64 0])
  have hxA : Ext st ⟨hh, c + 1 + 1 + 1 + 1⟩ := by
    have := ((hx1.trans hx2).trans hx3).trans hx4
    simp only at this
    rw [hhh, hc]
    rw [hc] at this
    exact this
  have e1 : hget hh c = some (.cells 58 false (coderCells white white w 0 false)) := by rw [hhh, hget_cons, if_neg (by omega), hget_cons, if_neg (by omega), hget_cons, if_neg (by omega), hget_cons, if_pos rfl]
  have e2 : hget hh (c + 1) = some (.cells 71 false (rdrC s (0, false))) := by rw [hhh, hget_cons, if_neg (by omega), hget_cons, if_neg (by omega), hget_cons, if_pos rfl]; rfl
  have e3 : hget hh (c + 1 + 1) = some (.cells 73 true [.ptr c 0, .ptr (c + 1) 0]) := by rw [hhh, hget_cons, if_neg (by omega), hget_cons, if_pos rfl]
  have e4 : hget hh (c + 1 + 1 + 1) = some (.cells 51 false [.nilslice, .int .i64 0]) := by rw [hhh, hget_cons, if_pos rfl]
  have hWr : ∀ d : Nat, d < 2 → WriterAt ⟨hh, c + 1 + 1 + 1 + 1⟩ (c + 1 + 1 + 1) d 51 false .nilslice [] := fun d hd => ⟨e4, .nil rfl rfl rfl, by omega, by simp only; omega⟩
  refine (Res.and (decode_l1 (n := n) (o := c + 1 + 1 + 1) (c := c) (b := c + 1 + 1) (r := c + 1) (ty := 51) (loc := false) (tc := 58) (lc := false) (tr := 71) (lr := false) (str := s) H (by omega) (by omega) hn (by omega) (by omega) (by omega) (by omega) (by omega) (by omega) (by omega)
      (8 * s.length + 1) 0 white white 0 false (0, false) ⟨_, _⟩ 0 .nilslice [] _ (by simp only; omega) white_length white_length (by simp) rfl (by simp) (by simp) hxA.wf (hWr 0 (by omega)) (by omega) (by omega) (by omega) e1 e3 e2 ?_ ?_ ?_ ?_)
    (decode_l1 (n := n) (o := c + 1 + 1 + 1) (c := c) (b := c + 1 + 1) (r := c + 1) (ty := 51) (loc := false) (tc := 58) (lc := false) (tr := 71) (lr := false) (str := s) H (by omega) (by omega) hn (by omega) (by omega) (by omega) (by omega) (by omega) (by omega) (by omega)
      (8 * s.length + 1) 0 white white 0 false (0, false) ⟨_, _⟩ 1 .nilslice [] _ (by simp only; omega) white_length white_length (by simp) rfl (by simp) (by simp) hxA.wf (hWr 1 (by omega)) (by omega) (by omega) (by omega) e1 e3 e2 ?_ ?_ ?_ ?_)).mono ?_
  iterate 8 · simp [go_sem]
  rintro q e s2 ⟨⟨hF, h1⟩, hF', -⟩
  have hE2 : Ext st s2 := by
    have hA := (hxA.fr [c + 1 + 1 + 1, 0, c, c + 1]).trans hF (fun k hk => .inl hk)
    have hB := (hxA.fr [c + 1 + 1 + 1, 1, c, c + 1]).trans hF' (fun k hk => .inl hk)
    refine hA.both hB ?_
    intro k h1 h2
    simp at h1 h2
    omega
  have hdo := decAll_ok (bits := strBits s) (w := w) (by omega) (8 * s.length + 1) white (0, false)
  have hbl := strBits_length s
  generalize decAll (strBits s) w (8 * s.length + 1) white (0, false) = dd at *
  have hbx2 : hget s2.h (c + 1 + 1) = _ := hF.get hxA.wf e3 (by simp only [List.mem_cons, List.not_mem_nil, or_false]; omega)
  cases dd with
  | none =>
    obtain ⟨rfl, k4, k5, k6⟩ := h1
    simp only at hV
    simp (disch := omega) [go_sem, k4, k5, k6, ← hV, hE2]
  | some t =>
    obtain ⟨rs, p⟩ := t
    obtain ⟨rfl, k1, k7, k8, k9, hr2, M, ⟨nm3, v3, hW3, hnm3⟩, hM⟩ := h1
    simp only at hV
    obtain ⟨d1, d2, d3⟩ := hdo rs p (by simp) rfl rfl
    obtain ⟨pa, pb⟩ := p
    simp only at d1 d2 d3 hV
    subst d2
    have hmul : rs.length * n ≤ 524288 * 16 := Nat.mul_le_mul (by omega) (by omega)
    simp (disch := omega) [go_sem]
    refine (decode_l2 (c := c) (b := c + 1 + 1) (r := c + 1) (tr := 71) (lr := false) (str := s) H (by omega) (by omega) (by omega) 9 pa s2 _ (by omega) (by omega) hE2.wf hbx2 hr2 (u1 := .int .i64 w) (u8 := .ptr (c + 1 + 1 + 1) 0) (u9 := .int .i64 (0 + rs.length : Nat)) ?_ ?_ ?_ ?_).mono ?_
    · simp [go_sem, k1]
    · simp [go_sem, k7]
    · simp [go_sem, k8]
    · simp [go_sem, k9]
    rintro q e3 s3 ⟨hF3, f2⟩
    have hE3 : Ext st s3 := ((hE2.fr []).trans hF3 (by simp; omega)).ext (by simp)
    generalize padF (strBits s) 9 pa = pd at *
    cases pd with
    | none =>
      obtain ⟨rfl, m4, m5, m6⟩ := f2
      simp only at hV
      simp (disch := omega) [go_sem, m4, m5, m6, ← hV, hE3]
    | some ea =>
      obtain ⟨rfl, m1, m2, m3, m4, m5, m6, m7⟩ := f2
      simp only at hV
      have o1 := octets_tells (T := T) H hE3.wf (w := (w : Int)) (by omega) (by omega)
      rw [show ((w : Int) + 7) / 8 = (n : Nat) by omega] at o1
      have hpc : (rs.length : Int) * (n : Int) = ((rs.length * n : Nat) : Int) := by push_cast; rfl
      have hw1 : IntKind.i64.wrap ((rs.length : Int) * (n : Int)) = (rs.length : Int) * (n : Int) := wrap64 (by rw [hpc]; omega) (by rw [hpc]; omega)
      simp (disch := omega) [go_sem, m4, m5, m6, m7]
      refine o1.use fun s4 hs4 => ?_
      have hE4 := hE3.trans hs4
      by_cases hbig : 65536 < rs.length * n
      · have hbig' : (65536 : Int) < (rs.length : Int) * (n : Int) := by rw [hpc]; omega
        rw [if_pos hbig] at hV
        simp (disch := omega) [go_sem, hw1, hbig', ← hV, hE4]
      · have hbig' : ¬ (65536 : Int) < (rs.length : Int) * (n : Int) := by rw [hpc]; omega
        rw [if_neg hbig] at hV
        have hMM := hM (by rw [Nat.zero_add]; omega)
        rw [List.nil_append] at hW3
        have hnm4 : nm3 ≠ c + 1 := by
          rcases hnm3 with h | h
          · omega
          · have : c + 1 + 1 + 1 + 1 ≤ nm3 := h
            omega
        have hW4 := (hW3.sl.frm (hF3.trans (hs4.fr [c + 1]) (by simp)) hE2.wf (by simpa using hnm4)).rd'
        have ho4 : hget s4.h (c + 1 + 1 + 1) = _ := (hF3.trans (hs4.fr [c + 1]) (by simp)).get hE2.wf hW3.at' (by simp only [List.mem_cons, List.not_mem_nil, or_false]; omega)
        have hbx4 : hget s4.h (c + 1 + 1) = _ := (hF3.trans (hs4.fr [c + 1]) (by simp)).get hE2.wf hbx2 (by simp only [List.mem_cons, List.not_mem_nil, or_false]; omega)
        have hr4 := hs4.get hF3.wf m3
        have q0 : rdCell s4.h (c + 1 + 1 + 1) 0 = some v3 := by simp [rdCell, ho4]
        have q1 : rdCell s4.h (c + 1 + 1) 1 = some (.ptr (c + 1) 0) := by simp [rdCell, hbx4]
        have q2 : rdCell s4.h (c + 1) 1 = some (.int .i64 ea) := by simp [rdCell, hr4, rdrC]
        have hdv : (ea : Int).tdiv 8 = (ea / 8 : Nat) := by rw [Int.tdiv_eq_ediv_of_nonneg (by omega)]; omega
        have hwq : IntKind.i64.wrap ((ea : Int) / 8) = (ea : Int) / 8 := wrap64 (by omega) (by omega)
        have hb2 := toBytes_octs (packN M)
        rw [← hMM] at hV
        have hE5 : Ext st ⟨s4.h, s4.nx + 14⟩ := Ext.upTo (n := s4.nx) hE4 (by omega)
        rcases hW4 with ⟨r1, r2, r3⟩ | ⟨n5, off, cp, r1, r2⟩
        · have hp0 : packN M = [] := by simpa [octs] using r3
          subst r1
          rw [hp0] at hV
          simp (disch := omega) [go_sem, hw1, hbig', ← hV, hE5, q0, q1, q2, hdv, hwq]
        · subst r1
          rw [Nat.mul_one] at r2
          simp (disch := omega) [go_sem, hw1, hbig', ← hV, hE5, q0, q1, q2, hdv, hwq, r2, hb2]
end

end Go.Ev
