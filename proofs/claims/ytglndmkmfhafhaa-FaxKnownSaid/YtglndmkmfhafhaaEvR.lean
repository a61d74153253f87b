/- The evaluator without fuel: what it comes to, and its equations. -/
import Derived.Test.YtglndmkmfhafhaaEvU
namespace Go.Ev
open Go
set_option linter.unusedSimpArgs false
set_option linter.unusedVariables false

def ELe (f g : ExF) : Prop := ∀ c e st r, f c e st = some r → g c e st = some r
def CLe (f g : CallF) : Prop := ∀ a args st r, f a args st = some r → g a args st = some r

theorem WO.mono {f g : CallF} (h : CLe f g) {ev : AO → AV} {st : St} {o : WO} {r : AV × St} (hr : WO.run f ev st o = some r) : WO.run g ev st o = some r := by
  cases o with
  | call x xs => exact h _ _ _ _ hr
  | _ => exact hr

theorem MO.mono {f g : CallF} (h : CLe f g) {ev : AO → AV} {st : St} {o : MO} {r : AV × St} (hr : MO.run f ev st o = some r) : MO.run g ev st o = some r := by
  cases o with
  | w p => exact WO.mono h hr
  | _ => exact hr

theorem MI.mono {f g : CallF} (h : CLe f g) {o : MI} {e : Env} {st : St} {r : Env × St} (hr : o.run f e st = some r) : o.run g e st = some r := by
  unfold MI.run at hr ⊢
  split at hr <;> rename_i hw
  · split at hr <;> rename_i h1
    · rw [MO.mono h h1]; exact hr
    · cases hr
  · exact hr
  · cases hr

theorem runOps_mono {f g : CallF} (h : CLe f g) : ∀ {l : List MI} {e : Env} {st : St} {r : Env × St}, runOps f l e st = some r → runOps g l e st = some r
  | [], _, _, _, hr => hr
  | o :: l, e, st, r, hr => by
    simp only [runOps] at hr ⊢
    split at hr <;> rename_i h1
    · rw [MI.mono h h1]; exact runOps_mono h hr
    · cases hr

theorem runI_mono {f g : CallF} (h : CLe f g) {nm : Nat} {o : MI} {e : Env} {st : St} {r : Env × St × Nat} (hr : runI f nm o e st = some r) : runI g nm o e st = some r := by
  unfold runI at hr ⊢
  split at hr <;> rename_i hw
  · split at hr
    · exact hr
    · split at hr <;> rename_i h1
      · rw [MO.mono h h1]; exact hr
      · cases hr
  · exact hr
  · cases hr

theorem runR_mono {f g : CallF} (h : CLe f g) : ∀ {l : List RI} {d : List (Nat × MI)} {nm : Nat} {e : Env} {st : St} {r : Env × St}, runR f d nm l e st = some r → runR g d nm l e st = some r
  | [], _, _, _, _, _, hr => hr
  | .op i o :: l, d, nm, e, st, r, hr => by
    simp only [runR] at hr ⊢
    split at hr <;> rename_i h1
    · rw [runI_mono h h1]; exact runR_mono h hr
    · cases hr
  | .re i :: l, d, nm, e, st, r, hr => by
    simp only [runR] at hr ⊢
    split at hr
    · rename_i h1; rw [if_pos h1]; exact runR_mono h hr
    · cases hr

theorem evCallF_mono {T : Tab} {f g : ExF} (h : ELe f g) {k : Nat} {args : List AV} {st : St} {r : AV × St} (hr : evCallF T f k args st = some r) : evCallF T g k args st = some r := by
  unfold evCallF at hr ⊢
  split at hr
  · exact hr
  · split at hr
    · cases hr
    · split at hr
      · rename_i hl
        rw [if_pos hl]
        split at hr <;> rename_i h1
        · rw [h _ _ _ _ h1]; exact hr
        · rw [h _ _ _ _ h1]; exact hr
        · cases hr
      · cases hr

theorem evYield_mono {f g : ExF} (h : ELe f g) {l : Nat} {args : List AV} {st : St} {r : AV × St} (hr : evYield f l args st = some r) : evYield g l args st = some r := by
  unfold evYield at hr ⊢
  split at hr
  · split at hr
    · rename_i hl
      rw [if_pos hl]
      split at hr <;> rename_i h1
      · rw [h _ _ _ _ h1]
        simp only
        split at hr <;> rename_i h2
        · split at hr <;> rename_i h3
          · rw [h _ _ _ _ h3]; exact hr
          · cases hr
        · cases hr
      · cases hr
    · cases hr
  · cases hr

theorem evCall_mono {T : Tab} {f g : ExF} (h : ELe f g) : CLe (evCall T f) (evCall T g) := by
  intro a args st r hr
  unfold evCall at hr ⊢
  split at hr
  · exact evCallF_mono h hr
  · exact evYield_mono h hr
  · cases hr

theorem evStep_mono {T : Tab} {f g : ExF} (h : ELe f g) : ELe (evStep T f) (evStep T g) := by
  have hc := evCall_mono (T := T) h
  intro c e st r hr
  cases c with
  | skip => exact hr
  | reg l =>
    simp only [evStep] at hr ⊢
    split at hr <;> rename_i h1
    · rw [runOps_mono hc h1]; exact hr
    · cases hr
  | regd l =>
    simp only [evStep] at hr ⊢
    split at hr <;> rename_i h1
    · rw [runR_mono hc h1]; exact hr
    · cases hr
  | seq a b =>
    by_cases hk : ∃ l, a = .keep l
    · obtain ⟨l, rfl⟩ := hk
      simp only [evStep] at hr ⊢
      exact h _ _ _ _ hr
    · have e1 : ∀ ex : ExF, evStep T ex (.seq a b) e st = (match ex a e st with | some (.norm, e, st) => ex b e st | r => r) := by
        intro ex
        cases a <;> first | rfl | exact absurd ⟨_, rfl⟩ hk
      rw [e1] at hr ⊢
      split at hr <;> rename_i h1
      · rw [h _ _ _ _ h1]; exact h _ _ _ _ hr
      · rw [h _ _ _ _ hr]
        split
        · rename_i e2 st2 heq
          exact absurd hr (by rw [heq]; exact h1 e2 st2)
        · rfl
  | cond x a b =>
    simp only [evStep] at hr ⊢
    split at hr
    · exact h _ _ _ _ hr
    · exact h _ _ _ _ hr
    · cases hr
  | block i b =>
    simp only [evStep] at hr ⊢
    split at hr <;> rename_i h1
    · rw [h _ _ _ _ h1]; exact hr
    · rw [h _ _ _ _ hr]
      split
      · rename_i i2 e2 st2 heq
        exact absurd hr (by rw [heq]; exact h1 i2 e2 st2)
      · rfl
  | loop b =>
    simp only [evStep] at hr ⊢
    split at hr <;> rename_i h1
    · rw [h _ _ _ _ h1]; exact h _ _ _ _ hr
    · rw [h _ _ _ _ hr]
      split
      · rename_i e2 st2 heq
        exact absurd hr (by rw [heq]; exact h1 e2 st2)
      · rfl
  | scope b => simp only [evStep] at hr ⊢; exact h _ _ _ _ hr
  | rangeFunc f ps a b =>
    simp only [evStep] at hr ⊢
    split at hr <;> rename_i h1
    · rw [hc _ _ _ _ h1]; exact hr
    · cases hr
  | exit i => exact hr
  | ret => exact hr
  | keep l => exact hr
  | stuck => exact hr

theorem exec_mono_succ (T : Tab) : ∀ n, ELe (exec T n) (exec T (n + 1))
  | 0 => fun _ _ _ _ h => by cases h
  | n + 1 => evStep_mono (exec_mono_succ T n)

theorem exec_mono (T : Tab) {n m : Nat} (h : n ≤ m) : ELe (exec T n) (exec T m) := by
  induction h with
  | refl => exact fun _ _ _ _ h => h
  | step _ ih => exact fun c e st r hr => exec_mono_succ T _ c e st r (ih c e st r hr)

open Classical in
/-- What the code comes to. -/
noncomputable def run (T : Tab) (c : MCode) (e : Env) (st : St) : Option (Ex × Env × St) :=
  if h : ∃ n r, exec T n c e st = some r then exec T h.choose c e st else none

theorem run_iff {T : Tab} {c : MCode} {e : Env} {st : St} {r : Ex × Env × St} : run T c e st = some r ↔ ∃ n, exec T n c e st = some r := by
  unfold run
  constructor
  · intro h
    split at h
    · exact ⟨_, h⟩
    · cases h
  · rintro ⟨n, hn⟩
    have h : ∃ n r, exec T n c e st = some r := ⟨n, r, hn⟩
    rw [dif_pos h]
    obtain ⟨r', hr'⟩ := h.choose_spec
    have h1 := exec_mono T (Nat.le_max_left n h.choose) _ _ _ _ hn
    have h2 := exec_mono T (Nat.le_max_right n h.choose) _ _ _ _ hr'
    rw [h1] at h2
    rw [hr', h2]

theorem exec_le_run (T : Tab) (n : Nat) : ELe (exec T n) (run T) := fun _ _ _ _ h => run_iff.2 ⟨n, h⟩

/-- A call, without fuel. -/
noncomputable def call (T : Tab) : CallF := evCall T (run T)

theorem call_cont {T : Tab} {a : AV} {args : List AV} {st : St} {r : AV × St} (h : call T a args st = some r) : ∃ n, evCall T (exec T n) a args st = some r := by
  unfold call evCall at h
  split at h
  · rename_i f first cap
    simp only [evCall]
    unfold evCallF at h ⊢
    split at h
    · exact ⟨0, h⟩
    · split at h
      · cases h
      · split at h
        · rename_i hl
          split at h <;> rename_i h1
          · obtain ⟨n, hn⟩ := run_iff.1 h1
            exact ⟨n, by rw [if_pos hl, hn]; exact h⟩
          · obtain ⟨n, hn⟩ := run_iff.1 h1
            exact ⟨n, by rw [if_pos hl, hn]; exact h⟩
          · cases h
        · cases h
  · rename_i l
    simp only [evCall]
    unfold evYield at h ⊢
    split at h
    · split at h
      · rename_i hl
        split at h <;> rename_i h1
        · split at h <;> rename_i h2
          · split at h <;> rename_i h3
            · obtain ⟨n, hn⟩ := run_iff.1 h1
              obtain ⟨m, hm⟩ := run_iff.1 h3
              refine ⟨max n m, ?_⟩
              rw [if_pos hl, exec_mono T (Nat.le_max_left n m) _ _ _ _ hn]
              simp only
              rw [h2]
              simp only
              rw [exec_mono T (Nat.le_max_right n m) _ _ _ _ hm]
              exact h
            · cases h
          · cases h
        · cases h
      · cases h
    · cases h
  · cases h

theorem MO_cont {T : Tab} {ev : AO → AV} {st : St} {o : MO} {r : AV × St} (h : MO.run (call T) ev st o = some r) : ∃ n, MO.run (evCall T (exec T n)) ev st o = some r := by
  cases o with
  | w p =>
    cases p with
    | call f xs => exact call_cont h
    | _ => exact ⟨0, h⟩
  | _ => exact ⟨0, h⟩

theorem MI_cont {T : Tab} {o : MI} {e : Env} {st : St} {r : Env × St} (h : o.run (call T) e st = some r) : ∃ n, o.run (evCall T (exec T n)) e st = some r := by
  unfold MI.run at h ⊢
  split at h
  · split at h <;> rename_i h1
    · obtain ⟨n, hn⟩ := MO_cont h1
      exact ⟨n, by rw [hn]; exact h⟩
    · cases h
  · exact ⟨0, h⟩
  · cases h

theorem callx_le (T : Tab) {n m : Nat} (h : n ≤ m) : CLe (evCall T (exec T n)) (evCall T (exec T m)) := evCall_mono (exec_mono T h)

theorem runOps_cont {T : Tab} : ∀ {l : List MI} {e : Env} {st : St} {r : Env × St}, runOps (call T) l e st = some r → ∃ n, runOps (evCall T (exec T n)) l e st = some r
  | [], _, _, _, h => ⟨0, h⟩
  | o :: l, e, st, r, h => by
    simp only [runOps] at h ⊢
    split at h <;> rename_i h1
    · obtain ⟨n, hn⟩ := MI_cont h1
      obtain ⟨m, hm⟩ := runOps_cont h
      exact ⟨max n m, by rw [MI.mono (callx_le T (Nat.le_max_left n m)) hn]; exact runOps_mono (callx_le T (Nat.le_max_right n m)) hm⟩
    · cases h

theorem runI_cont {T : Tab} {nm : Nat} {o : MI} {e : Env} {st : St} {r : Env × St × Nat} (h : runI (call T) nm o e st = some r) : ∃ n, runI (evCall T (exec T n)) nm o e st = some r := by
  unfold runI at h ⊢
  split at h
  · split at h
    · exact ⟨0, h⟩
    · split at h <;> rename_i h1
      · obtain ⟨n, hn⟩ := MO_cont h1
        exact ⟨n, by rw [hn]; exact h⟩
      · cases h
  · exact ⟨0, h⟩
  · cases h

theorem runR_cont {T : Tab} : ∀ {l : List RI} {d : List (Nat × MI)} {nm : Nat} {e : Env} {st : St} {r : Env × St}, runR (call T) d nm l e st = some r → ∃ n, runR (evCall T (exec T n)) d nm l e st = some r
  | [], _, _, _, _, _, h => ⟨0, h⟩
  | .op i o :: l, d, nm, e, st, r, h => by
    simp only [runR] at h ⊢
    split at h <;> rename_i h1
    · obtain ⟨n, hn⟩ := runI_cont h1
      obtain ⟨m, hm⟩ := runR_cont h
      exact ⟨max n m, by rw [runI_mono (callx_le T (Nat.le_max_left n m)) hn]; exact runR_mono (callx_le T (Nat.le_max_right n m)) hm⟩
    · cases h
  | .re i :: l, d, nm, e, st, r, h => by
    simp only [runR] at h ⊢
    split at h
    · rename_i h1
      obtain ⟨m, hm⟩ := runR_cont h
      exact ⟨m, by rw [if_pos h1]; exact hm⟩
    · cases h

/-- The evaluator's one equation. -/
theorem run_eq (T : Tab) (c : MCode) (e : Env) (st : St) : run T c e st = evStep T (run T) c e st := by
  have fwd : ∀ r, run T c e st = some r → evStep T (run T) c e st = some r := by
    intro r h
    obtain ⟨n, hn⟩ := run_iff.1 h
    cases n with
    | zero => cases hn
    | succ n => exact evStep_mono (exec_le_run T n) _ _ _ _ hn
  have bwd : ∀ r, evStep T (run T) c e st = some r → run T c e st = some r := by
    intro r h
    suffices hs : ∃ n, evStep T (exec T n) c e st = some r by
      obtain ⟨n, hn⟩ := hs
      exact run_iff.2 ⟨n + 1, hn⟩
    have one : ∀ {c' e' st' r'}, run T c' e' st' = some r' → ∃ n, ∀ m, n ≤ m → exec T m c' e' st' = some r' := by
      intro c' e' st' r' h'
      obtain ⟨n, hn⟩ := run_iff.1 h'
      exact ⟨n, fun m hm => exec_mono T hm _ _ _ _ hn⟩
    cases c with
    | skip => exact ⟨0, h⟩
    | reg l =>
      simp only [evStep] at h ⊢
      split at h <;> rename_i h1
      · obtain ⟨n, hn⟩ := runOps_cont h1
        exact ⟨n, by rw [hn]; exact h⟩
      · cases h
    | regd l =>
      simp only [evStep] at h ⊢
      split at h <;> rename_i h1
      · obtain ⟨n, hn⟩ := runR_cont h1
        exact ⟨n, by rw [hn]; exact h⟩
      · cases h
    | seq a b =>
      by_cases hk : ∃ l, a = .keep l
      · obtain ⟨l, rfl⟩ := hk
        simp only [evStep] at h ⊢
        exact run_iff.1 h
      · have e1 : ∀ ex : ExF, evStep T ex (.seq a b) e st = (match ex a e st with | some (.norm, e, st) => ex b e st | r => r) := by
          intro ex
          cases a <;> first | rfl | exact absurd ⟨_, rfl⟩ hk
        simp only [e1] at h ⊢
        split at h <;> rename_i h1
        · obtain ⟨n, hn⟩ := one h1
          obtain ⟨m, hm⟩ := one h
          refine ⟨max n m, ?_⟩
          rw [hn _ (Nat.le_max_left n m)]
          exact hm _ (Nat.le_max_right n m)
        · obtain ⟨n, hn⟩ := one h
          refine ⟨n, ?_⟩
          rw [hn n (Nat.le_refl _)]
          split
          · rename_i e2 st2 heq
            exact absurd h (by rw [heq]; exact h1 e2 st2)
          · rfl
    | cond x a b =>
      simp only [evStep] at h ⊢
      split at h
      · exact run_iff.1 h
      · exact run_iff.1 h
      · cases h
    | block i b =>
      simp only [evStep] at h ⊢
      split at h <;> rename_i h1
      · obtain ⟨n, hn⟩ := run_iff.1 h1
        exact ⟨n, by rw [hn]; exact h⟩
      · obtain ⟨n, hn⟩ := run_iff.1 h
        refine ⟨n, ?_⟩
        rw [hn]
        split
        · rename_i i2 e2 st2 heq
          exact absurd h (by rw [heq]; exact h1 i2 e2 st2)
        · rfl
    | loop b =>
      simp only [evStep] at h ⊢
      split at h <;> rename_i h1
      · obtain ⟨n, hn⟩ := one h1
        obtain ⟨m, hm⟩ := one h
        refine ⟨max n m, ?_⟩
        rw [hn _ (Nat.le_max_left n m)]
        exact hm _ (Nat.le_max_right n m)
      · obtain ⟨n, hn⟩ := one h
        refine ⟨n, ?_⟩
        rw [hn n (Nat.le_refl _)]
        split
        · rename_i e2 st2 heq
          exact absurd h (by rw [heq]; exact h1 e2 st2)
        · rfl
    | scope b => simp only [evStep] at h ⊢; exact run_iff.1 h
    | rangeFunc f ps a b =>
      simp only [evStep] at h ⊢
      split at h <;> rename_i h1
      · obtain ⟨n, hn⟩ := call_cont h1
        exact ⟨n, by rw [hn]; exact h⟩
      · cases h
    | exit i => exact ⟨0, h⟩
    | ret => exact ⟨0, h⟩
    | keep l => exact ⟨0, h⟩
    | stuck => exact ⟨0, h⟩
  cases hr : run T c e st with
  | some r => exact (fwd r hr).symm
  | none =>
    cases he : evStep T (run T) c e st with
    | none => rfl
    | some r => rw [bwd r he] at hr; cases hr

end Go.Ev

/- The evaluator's equations, for rewriting: code by code, operation by operation. -/
namespace Go.Ev
open Go
set_option linter.unusedSimpArgs false
set_option linter.unusedVariables false

variable {T : Tab} {e : Env} {st : St}

/-- What follows a first part. -/
noncomputable def seqR (T : Tab) (b : MCode) : Option (Ex × Env × St) → Option (Ex × Env × St)
  | some (.norm, e, st) => run T b e st
  | r => r

@[go_sem] theorem seqR_norm (b : MCode) : seqR T b (some (.norm, e, st)) = run T b e st := rfl
@[go_sem] theorem seqR_exit (b : MCode) (i : Nat) : seqR T b (some (.exit i, e, st)) = some (.exit i, e, st) := rfl
@[go_sem] theorem seqR_ret (b : MCode) : seqR T b (some (.ret, e, st)) = some (.ret, e, st) := rfl
@[go_sem] theorem seqR_none (b : MCode) : seqR T b none = none := rfl

def opsR (call : CallF) (l : List MI) : Option (Env × St) → Option (Env × St)
  | some (e, st) => runOps call l e st
  | none => none
@[go_sem] theorem opsR_some (call : CallF) (l : List MI) : opsR call l (some (e, st)) = runOps call l e st := rfl
@[go_sem] theorem opsR_none (call : CallF) (l : List MI) : opsR call l none = none := rfl

def opsE : Option (Env × St) → Option (Ex × Env × St)
  | some (e, st) => some (.norm, e, st)
  | none => none
@[go_sem] theorem opsE_some : opsE (some (e, st)) = some (.norm, e, st) := rfl
@[go_sem] theorem opsE_none : opsE none = none := rfl

def blockE (i : Nat) : Option (Ex × Env × St) → Option (Ex × Env × St)
  | some (.exit j, e, st) => if j = i then some (.norm, e, st) else some (.exit j, e, st)
  | r => r
@[go_sem] theorem blockE_norm (i : Nat) : blockE i (some (.norm, e, st)) = some (.norm, e, st) := rfl
@[go_sem] theorem blockE_ret (i : Nat) : blockE i (some (.ret, e, st)) = some (.ret, e, st) := rfl
@[go_sem] theorem blockE_exit (i j : Nat) : blockE i (some (.exit j, e, st)) = if j = i then some (.norm, e, st) else some (.exit j, e, st) := rfl
@[go_sem] theorem blockE_none (i : Nat) : blockE i none = none := rfl

@[go_sem] theorem run_skip : run T .skip e st = some (.norm, e, st) := run_eq ..
@[go_sem] theorem run_exit (i : Nat) : run T (.exit i) e st = some (.exit i, e, st) := run_eq ..
@[go_sem] theorem run_ret : run T .ret e st = some (.ret, e, st) := run_eq ..
@[go_sem] theorem run_keep (l : List Nat) (m : MCode) : run T (.seq (.keep l) m) e st = run T m (keepE l e) st := run_eq ..
@[go_sem] theorem run_scope (b : MCode) : run T (.scope b) e st = run T b e st := run_eq ..
@[go_sem] theorem run_block (i : Nat) (b : MCode) : run T (.block i b) e st = blockE i (run T b e st) := by
  rw [run_eq]
  simp only [evStep]
  unfold blockE
  split
  · rename_i h
    rw [h]
  · rename_i h
    split
    · rename_i h2
      exact absurd h2 (h _ _ _)
    · rfl
@[go_sem] theorem run_reg (l : List MI) : run T (.reg l) e st = opsE (runOps (call T) l e st) := by
  rw [run_eq]
  simp only [evStep, call]
  cases runOps (evCall T (run T)) l e st <;> rfl
@[go_sem] theorem run_regd (l : List RI) : run T (.regd l) e st = opsE (runR (call T) [] st.nx l e ⟨st.h, st.nx + l.length⟩) := by
  rw [run_eq]
  simp only [evStep, call]
  cases runR (evCall T (run T)) [] st.nx l e ⟨st.h, st.nx + l.length⟩ <;> rfl
theorem run_seq' {a b : MCode} (h : ∀ l, a ≠ .keep l) : run T (.seq a b) e st = seqR T b (run T a e st) := by
  rw [run_eq]
  have e1 : evStep T (run T) (.seq a b) e st = (match run T a e st with | some (.norm, e, st) => run T b e st | r => r) := by
    cases a <;> first | rfl | exact absurd rfl (h _)
  rw [e1]
  unfold seqR
  split <;> rfl
section
variable (b c d : MCode)
@[go_sem] theorem run_seq_skip : run T (.seq .skip b) e st = seqR T b (run T .skip e st) := run_seq' (by simp)
@[go_sem] theorem run_seq_reg (l : List MI) : run T (.seq (.reg l) b) e st = seqR T b (run T (.reg l) e st) := run_seq' (by simp)
@[go_sem] theorem run_seq_regd (l : List RI) : run T (.seq (.regd l) b) e st = seqR T b (run T (.regd l) e st) := run_seq' (by simp)
@[go_sem] theorem run_seq_seq : run T (.seq (.seq c d) b) e st = seqR T b (run T (.seq c d) e st) := run_seq' (by simp)
@[go_sem] theorem run_seq_cond (x : AO) : run T (.seq (.cond x c d) b) e st = seqR T b (run T (.cond x c d) e st) := run_seq' (by simp)
@[go_sem] theorem run_seq_block (i : Nat) : run T (.seq (.block i c) b) e st = seqR T b (run T (.block i c) e st) := run_seq' (by simp)
@[go_sem] theorem run_seq_loop : run T (.seq (.loop c) b) e st = seqR T b (run T (.loop c) e st) := run_seq' (by simp)
@[go_sem] theorem run_seq_scope : run T (.seq (.scope c) b) e st = seqR T b (run T (.scope c) e st) := run_seq' (by simp)
@[go_sem] theorem run_seq_exit (i : Nat) : run T (.seq (.exit i) b) e st = some (.exit i, e, st) := by rw [run_seq' (by simp), run_exit]; rfl
@[go_sem] theorem run_seq_ret : run T (.seq .ret b) e st = some (.ret, e, st) := by rw [run_seq' (by simp), run_ret]; rfl
@[go_sem] theorem run_seq_rf (f : AO) (ps : List Nat) : run T (.seq (.rangeFunc f ps c d) b) e st = seqR T b (run T (.rangeFunc f ps c d) e st) := run_seq' (by simp)
end

/-- A loop's next round. -/
theorem run_loop (b : MCode) : run T (.loop b) e st = seqR T (.loop b) (run T b e st) := by
  rw [run_eq]
  simp only [evStep]
  unfold seqR
  split
  · rename_i h1
    rw [h1]
  · rename_i h1
    split
    · rename_i h2
      exact absurd h2 (h1 _ _)
    · rfl

theorem run_cond_bool {x : AO} {a b : MCode} {v : Bool} (h : x.ev e = .bool v) : run T (.cond x a b) e st = if v = true then run T a e st else run T b e st := by
  rw [run_eq]
  simp only [evStep, h]
  cases v <;> rfl

/-- A two-way branch on a value. -/
noncomputable def brR (T : Tab) (a b : MCode) (e : Env) (st : St) : AV → Option (Ex × Env × St)
  | .bool v => if v = true then run T a e st else run T b e st
  | _ => none
@[go_sem] theorem brR_bool (a b : MCode) (v : Bool) : brR T a b e st (.bool v) = if v = true then run T a e st else run T b e st := rfl
@[go_sem] theorem run_cond (x : AO) (a b : MCode) : run T (.cond x a b) e st = brR T a b e st (x.ev e) := by
  rw [run_eq]
  simp only [evStep]
  cases x.ev e with
  | bool v => cases v <;> rfl
  | _ => rfl

@[go_sem] theorem runOps_nil' (call : CallF) : runOps call [] e st = some (e, st) := rfl
@[go_sem] theorem runOps_cons' (call : CallF) (i : MI) (l : List MI) : runOps call (i :: l) e st = opsR call l (i.run call e st) := by
  simp only [runOps]
  cases i.run call e st <;> rfl

def miR (d : Option Nat) (e : Env) : Option (AV × St) → Option (Env × St)
  | some (v, st) => some (eput e d v, st)
  | none => none
@[go_sem] theorem miR_some (d : Option Nat) (v : AV) : miR d e (some (v, st)) = some (eput e d v, st) := rfl
@[go_sem] theorem miR_none (d : Option Nat) : miR d e none = none := rfl

@[go_sem] theorem MI_run_free (call : CallF) (d : Option Nat) (o : MO) : MI.run call ⟨d, none, o⟩ e st = miR d e (o.run call (AO.ev e) st) := by
  simp only [MI.run, wanted]
  cases o.run call (AO.ev e) st <;> rfl

def guardR (call : CallF) (d : Option Nat) (b : Bool) (o : MO) (e : Env) (st : St) : AV → Option (Env × St)
  | .bool c => if c = b then miR d e (o.run call (AO.ev e) st) else some (eput e d unmade, st)
  | .tuple _ => some (eput e d unmade, st)
  | _ => none
@[go_sem] theorem guardR_bool (call : CallF) (d : Option Nat) (b c : Bool) (o : MO) : guardR call d b o e st (.bool c) = if c = b then miR d e (o.run call (AO.ev e) st) else some (eput e d unmade, st) := rfl
@[go_sem] theorem guardR_tuple (call : CallF) (d : Option Nat) (b : Bool) (o : MO) (l : List AV) : guardR call d b o e st (.tuple l) = some (eput e d unmade, st) := rfl
@[go_sem] theorem MI_run_guard (call : CallF) (d : Option Nat) (t : Nat) (b : Bool) (o : MO) : MI.run call ⟨d, some (t, b), o⟩ e st = guardR call d b o e st (eget e t) := by
  simp only [MI.run, wanted]
  cases hv : eget e t with
  | bool c =>
    simp only [guardR]
    cases hcb : c == b with
    | true =>
      rw [if_pos (by simpa using hcb)]
      simp only
      cases o.run call (AO.ev e) st <;> rfl
    | false => rw [if_neg (by simpa using hcb)]
  | _ => rfl

@[go_sem] theorem MO_p (call : CallF) (ev : AO → AV) (o : PO) : MO.run call ev st (.p o) = (PO.run ev o).map fun v => (v, st) := by
  simp only [MO.run]; cases PO.run ev o <;> rfl
@[go_sem] theorem MO_r (call : CallF) (ev : AO → AV) (o : RO) : MO.run call ev st (.r o) = (RO.run ev st.h o).map fun v => (v, st) := by
  simp only [MO.run]; cases RO.run ev st.h o <;> rfl
@[go_sem] theorem MO_n (call : CallF) (ev : AO → AV) (o : NO) : MO.run call ev st (.n o) = (NO.run ev st.nx o).map fun p => (p.1, ⟨(st.nx, p.2) :: st.h, st.nx + 1⟩) := by
  simp only [MO.run]; cases NO.run ev st.nx o <;> rfl
@[go_sem] theorem MO_call (call : CallF) (ev : AO → AV) (f : AO) (xs : List AO) : MO.run call ev st (.w (.call f xs)) = call (ev f) (xs.map ev) st := rfl

@[go_sem] theorem MO_store (call : CallF) (ev : AO → AV) (z : Nat) (a x : AO) : MO.run call ev st (.w (.store z a x)) = WO.run call ev st (.store z a x) := rfl
@[go_sem] theorem MO_append (call : CallF) (ev : AO → AV) (a b c : Nat) (z : List AV) (s x : AO) : MO.run call ev st (.w (.append a b c z s x)) = aappend a b c st (ev s) (ev x) := rfl
@[go_sem] theorem MO_copy (call : CallF) (ev : AO → AV) (z : Nat) (a x : AO) : MO.run call ev st (.w (.copy z a x)) = WO.run call ev st (.copy z a x) := rfl
@[go_sem] theorem MO_mput (call : CallF) (ev : AO → AV) (k : Kd) (a b c : AO) : MO.run call ev st (.w (.mput k a b c)) = WO.run call ev st (.mput k a b c) := rfl

@[go_sem] theorem ev_t (n : Nat) : AO.ev e (.t n) = eget e n := rfl
@[go_sem] theorem ev_k (v : AV) : AO.ev e (.k v) = v := rfl
@[go_sem] theorem eput_some (d : Nat) (v : AV) : eput e (some d) v = (d, v) :: e := rfl
@[go_sem] theorem eput_none (v : AV) : eput e none v = e := rfl
@[go_sem] theorem eget_nil (t : Nat) : eget [] t = .bot := rfl
@[go_sem] theorem eget_cons (m t : Nat) (v : AV) : eget ((m, v) :: e) t = if m = t then v else eget e t := rfl
@[go_sem] theorem keepE_nil : keepE [] e = [] := rfl
@[go_sem] theorem keepE_cons (t : Nat) (l : List Nat) : keepE (t :: l) e = (t, eget e t) :: keepE l e := rfl

/-- Operations on bits: by name, so that rewriting does not look into them. -/
def iand (k : IntKind) (a b : Int) : Int := k.wrap (BitVec.ofInt k.bits a &&& BitVec.ofInt k.bits b).toNat
def ior (k : IntKind) (a b : Int) : Int := k.wrap (BitVec.ofInt k.bits a ||| BitVec.ofInt k.bits b).toNat
def ixor (k : IntKind) (a b : Int) : Int := k.wrap (BitVec.ofInt k.bits a ^^^ BitVec.ofInt k.bits b).toNat
def iandn (k : IntKind) (a b : Int) : Int := k.wrap (BitVec.ofInt k.bits a &&& ~~~ BitVec.ofInt k.bits b).toNat
def ishl (k : IntKind) (a b : Int) : Int := k.wrap (a * (2 ^ (min b.toNat k.bits) : Nat))
def ishr (k : IntKind) (a b : Int) : Int := a.fdiv (2 ^ (min b.toNat k.bits) : Nat)
def ixor1 (k : IntKind) (n : Int) : Int := k.wrap (BitVec.ofInt k.bits (if k.signed then -1 else k.max) ^^^ BitVec.ofInt k.bits n).toNat

section
variable (k k' : IntKind) (a b : Int)
@[go_sem] theorem abin_add : abin .add (.int k a) (.int k' b) = if k = k' then some (.int k (k.wrap (a + b))) else none := by simp only [abin, ibin, intF_eq, wrp_eq]
@[go_sem] theorem abin_sub : abin .sub (.int k a) (.int k' b) = if k = k' then some (.int k (k.wrap (a - b))) else none := by simp only [abin, ibin, intF_eq, wrp_eq]
@[go_sem] theorem abin_mul : abin .mul (.int k a) (.int k' b) = if k = k' then some (.int k (k.wrap (a * b))) else none := by simp only [abin, ibin, intF_eq, wrp_eq]
@[go_sem] theorem abin_quo : abin .quo (.int k a) (.int k' b) = if k = k' then (if b = 0 then none else some (.int k (k.wrap (a.tdiv b)))) else none := by simp only [abin, ibin, intF_eq, wrp_eq]
@[go_sem] theorem abin_rem : abin .rem (.int k a) (.int k' b) = if k = k' then (if b = 0 then none else some (.int k (a.tmod b))) else none := by simp only [abin, ibin, intF_eq]
@[go_sem] theorem abin_and : abin .and (.int k a) (.int k' b) = if k = k' then some (.int k (iand k a b)) else none := by simp only [abin, ibin, intF_eq, wrp_eq, iand]
@[go_sem] theorem abin_or : abin .or (.int k a) (.int k' b) = if k = k' then some (.int k (ior k a b)) else none := by simp only [abin, ibin, intF_eq, wrp_eq, ior]
@[go_sem] theorem abin_xor : abin .xor (.int k a) (.int k' b) = if k = k' then some (.int k (ixor k a b)) else none := by simp only [abin, ibin, intF_eq, wrp_eq, ixor]
@[go_sem] theorem abin_andNot : abin .andNot (.int k a) (.int k' b) = if k = k' then some (.int k (iandn k a b)) else none := by simp only [abin, ibin, intF_eq, wrp_eq, iandn]
@[go_sem] theorem abin_shl : abin .shl (.int k a) (.int k' b) = if b < 0 then none else some (.int k (ishl k a b)) := by simp only [abin, intF_eq, wrp_eq, ishl]
@[go_sem] theorem abin_shr : abin .shr (.int k a) (.int k' b) = if b < 0 then none else some (.int k (ishr k a b)) := by simp only [abin, intF_eq, ishr]
@[go_sem] theorem abin_eql : abin .eql (.int k a) (.int k' b) = if k = k' then some (.bool (decide (a = b))) else none := by simp only [abin, ibin]
@[go_sem] theorem abin_neq : abin .neq (.int k a) (.int k' b) = if k = k' then some (.bool (!decide (a = b))) else none := by simp only [abin, ibin]
@[go_sem] theorem abin_lss : abin .lss (.int k a) (.int k' b) = if k = k' then some (.bool (decide (a < b))) else none := by simp only [abin, ibin]
@[go_sem] theorem abin_leq : abin .leq (.int k a) (.int k' b) = if k = k' then some (.bool (decide (a ≤ b))) else none := by simp only [abin, ibin]
@[go_sem] theorem abin_gtr : abin .gtr (.int k a) (.int k' b) = if k = k' then some (.bool (decide (b < a))) else none := by simp only [abin, ibin]
@[go_sem] theorem abin_geq : abin .geq (.int k a) (.int k' b) = if k = k' then some (.bool (decide (b ≤ a))) else none := by simp only [abin, ibin]
@[go_sem] theorem abin_str (op : BinOp) (x y : List UInt8) : abin op (.str x) (.str y) = sbin op x y := by simp only [abin]
@[go_sem] theorem aun_neg : aun .neg (.int k a) = some (.int k (k.wrap (0 - a))) := by simp only [aun, intF_eq, wrp_eq]
@[go_sem] theorem aun_xor : aun .xor (.int k a) = some (.int k (ixor1 k a)) := by simp only [aun, intF_eq, wrp_eq, ixor1]
@[go_sem] theorem aun_not (x : Bool) : aun .not (.bool x) = some (.bool !x) := rfl
end

attribute [go_sem] PO.run intF_eq wrp_eq sbin Option.map_some Option.map_none

end Go.Ev

/- Calls on symbolic data: states that are well made, and what a call leaves alone. -/
namespace Go.Ev
open Go
set_option linter.unusedSimpArgs false
set_option linter.unusedVariables false

variable {T : Tab} {e : Env} {st st' st'' : St}

/-- Every name is below the next one. -/
structure St.Wf (st : St) : Prop where
  lt : ∀ n o, hget st.h n = some o → n < st.nx
  nd : (st.h.map (·.1)).Nodup

/-- A later state that holds what the first one held. -/
structure Ext (st st' : St) : Prop where
  nx : st.nx ≤ st'.nx
  wf : st'.Wf
  keep : ∀ n, n < st.nx → hget st'.h n = hget st.h n

theorem Ext.refl (h : st.Wf) : Ext st st := ⟨Nat.le_refl _, h, fun _ _ => rfl⟩
theorem Ext.trans (a : Ext st st') (b : Ext st' st'') : Ext st st'' :=
  ⟨Nat.le_trans a.nx b.nx, b.wf, fun n hn => by rw [b.keep n (Nat.lt_of_lt_of_le hn a.nx), a.keep n hn]⟩
theorem Ext.get (a : Ext st st') (hw : st.Wf) {n : Nat} {o : AObj} (h : hget st.h n = some o) : hget st'.h n = some o := by
  rw [a.keep n (hw.lt n o h), h]

/-- The same but for some objects. -/
structure Frm (S : List Nat) (st st' : St) : Prop where
  nx : st.nx ≤ st'.nx
  wf : st'.Wf
  keep : ∀ n, n < st.nx → n ∉ S → hget st'.h n = hget st.h n

theorem Ext.fr (a : Ext st st') (S : List Nat) : Frm S st st' := ⟨a.nx, a.wf, fun n hn _ => a.keep n hn⟩
theorem Frm.trans {S R : List Nat} (a : Frm S st st') (b : Frm R st' st'') (h : ∀ n ∈ R, n ∈ S ∨ st.nx ≤ n) : Frm S st st'' :=
  ⟨Nat.le_trans a.nx b.nx, b.wf, fun n hn hs => by
    rw [b.keep n (Nat.lt_of_lt_of_le hn a.nx) (fun hr => by
      rcases h n hr with h | h
      · exact hs h
      · omega), a.keep n hn hs]⟩
theorem Frm.mono {S R : List Nat} (a : Frm S st st') (h : ∀ n ∈ S, n ∈ R) : Frm R st st' := ⟨a.nx, a.wf, fun n hn hr => a.keep n hn (fun hs => hr (h n hs))⟩
theorem Frm.get {S : List Nat} (a : Frm S st st') (hw : st.Wf) {n : Nat} {o : AObj} (h : hget st.h n = some o) (hn : n ∉ S) : hget st'.h n = some o := by
  rw [a.keep n (hw.lt n o h) hn, h]
theorem Frm.ext {S : List Nat} (a : Frm S st st') (h : ∀ n ∈ S, st.nx ≤ n) : Ext st st' :=
  ⟨a.nx, a.wf, fun n hn => a.keep n hn (fun hs => by have := h n hs; omega)⟩

theorem hget_cons (m n : Nat) (o : AObj) (h : Heap) : hget ((m, o) :: h) n = if m = n then some o else hget h n := rfl
theorem hset_cons (m n : Nat) (o p : AObj) (h : Heap) : hset ((m, p) :: h) n o = if m = n then (n, o) :: h else (m, p) :: hset h n o := rfl

theorem hget_mem : ∀ {h : Heap} {n : Nat} {o : AObj}, hget h n = some o → (n, o) ∈ h
  | (m, p) :: h, n, o, hg => by
    simp only [hget] at hg
    split at hg
    · rename_i e; subst e; injection hg with e; subst e; exact List.mem_cons_self
    · exact List.mem_cons_of_mem _ (hget_mem hg)
theorem mem_hget : ∀ {h : Heap} {n : Nat} {o : AObj}, (h.map (·.1)).Nodup → (n, o) ∈ h → hget h n = some o
  | (m, p) :: h, n, o, hd, hm => by
    simp only [List.map_cons, List.nodup_cons] at hd
    simp only [hget]
    rcases List.mem_cons.1 hm with e | hm
    · injection e with e1 e2; subst e1; subst e2; rw [if_pos rfl]
    · rw [if_neg, mem_hget hd.2 hm]
      rintro rfl
      exact hd.1 (List.mem_map.2 ⟨_, hm, rfl⟩)
theorem hset_names : ∀ {h : Heap} {n : Nat} {o : AObj}, (hset h n o).map (·.1) = h.map (·.1)
  | [], _, _ => rfl
  | (m, p) :: h, n, o => by
    simp only [hset]
    split
    · rename_i e; subst e; rfl
    · simp [hset_names]
theorem hdel_sub : ∀ {h : Heap} {n : Nat}, ((hdel h n).map (·.1)).Sublist (h.map (·.1))
  | [], _ => List.Sublist.slnil
  | (m, p) :: h, n => by
    simp only [hdel]
    split
    · exact hdel_sub.cons _
    · exact hdel_sub.cons_cons _
theorem hdrop_sub : ∀ {l : List Nat} {h : Heap}, ((hdrop l h).map (·.1)).Sublist (h.map (·.1))
  | _, [] => List.Sublist.slnil
  | l, (m, p) :: h => by
    simp only [hdrop]
    split
    · exact hdrop_sub.cons _
    · exact hdrop_sub.cons_cons _

theorem locNames_nil : ∀ {h : Heap} {c : Nat}, (∀ n o, hget h n = some o → n < c) → locNames c h = []
  | [], _, _ => rfl
  | (m, o) :: h, c, hh => by
    have hm : m < c := hh m o (by simp [hget])
    have ht : ∀ n p, hget h n = some p → n < c := fun n p hp => by
      by_cases e : m = n
      · subst e; exact hm
      · exact hh n p (by simp only [hget]; rw [if_neg e]; exact hp)
    simp only [locNames]
    split
    · rw [if_pos hm, locNames_nil ht]
    · exact locNames_nil ht

theorem hdrop_id : ∀ {h : Heap} {l : List Nat}, (∀ n ∈ l, hget h n = none) → hdrop l h = h
  | [], _, _ => rfl
  | (m, o) :: h, l, hh => by
    have hm : hmem m l = false := by
      cases hq : hmem m l with
      | false => rfl
      | true =>
        have := hh m (hmem_iff.1 hq)
        simp [hget] at this
    simp only [hdrop, hm, Bool.false_eq_true, if_false]
    rw [hdrop_id (fun n hn => by
      have := hh n hn
      simp only [hget] at this
      split at this
      · cases this
      · exact this)]

theorem hdrop_nil (h : Heap) : hdrop [] h = h := hdrop_id (fun n hn => by cases hn)
theorem dropLoc_eq (c : Nat) (h : Heap) : dropLoc c h = hdrop (locNames c h) h := by
  unfold dropLoc
  split
  · rename_i he; rw [he, hdrop_nil]
  · rfl

theorem hget_hdrop_iff : ∀ {h : Heap} {l : List Nat} {n : Nat}, hget (hdrop l h) n = if n ∈ l then none else hget h n
  | [], l, n => by simp [hdrop, hget]
  | (m, o) :: h, l, n => by
    simp only [hdrop]
    split
    · rename_i hm
      rw [hget_hdrop_iff]
      simp only [hget]
      split
      · rfl
      · rename_i hn
        rw [if_neg]
        rintro rfl
        exact hn (hmem_iff.1 hm)
    · rename_i hm
      simp only [hget]
      rw [hget_hdrop_iff]
      by_cases e : m = n
      · subst e
        rw [if_pos rfl, if_pos rfl, if_neg (fun h => hm (hmem_iff.2 h))]
      · rw [if_neg e, if_neg e]

theorem mem_locNames : ∀ {h : Heap} {c n : Nat}, n ∈ locNames c h → c ≤ n
  | [], _, _, hn => by cases hn
  | (m, o) :: h, c, n, hn => by
    simp only [locNames] at hn
    split at hn
    · split at hn
      · exact mem_locNames hn
      · rcases List.mem_cons.1 hn with rfl | hn
        · omega
        · exact mem_locNames hn
    · exact mem_locNames hn

theorem mem_locNames_loc : ∀ {h : Heap} {c n : Nat}, n ∈ locNames c h → ∃ ty cs, (n, AObj.cells ty true cs) ∈ h
  | [], _, _, hn => by cases hn
  | (m, o) :: h, c, n, hn => by
    simp only [locNames] at hn
    split at hn
    · split at hn
      · obtain ⟨ty, cs, h⟩ := mem_locNames_loc hn; exact ⟨ty, cs, List.mem_cons_of_mem _ h⟩
      · rcases List.mem_cons.1 hn with rfl | hn
        · exact ⟨_, _, List.mem_cons_self⟩
        · obtain ⟨ty, cs, h⟩ := mem_locNames_loc hn; exact ⟨ty, cs, List.mem_cons_of_mem _ h⟩
    · obtain ⟨ty, cs, h⟩ := mem_locNames_loc hn; exact ⟨ty, cs, List.mem_cons_of_mem _ h⟩

/-- What is dropped is of the call's own. -/
theorem hget_dropLoc_lt {h : Heap} {c n : Nat} (hn : n < c) : hget (dropLoc c h) n = hget h n := by
  rw [dropLoc_eq, hget_hdrop_iff, if_neg]
  intro hm
  have := mem_locNames hm
  omega

theorem hget_dropLoc_some {h : Heap} {c n : Nat} {o : AObj} (hg : hget (dropLoc c h) n = some o) : hget h n = some o := by
  rw [dropLoc_eq, hget_hdrop_iff] at hg
  split at hg
  · cases hg
  · exact hg

theorem dropLoc_sub {h : Heap} {c : Nat} : ((dropLoc c h).map (·.1)).Sublist (h.map (·.1)) := by
  rw [dropLoc_eq]; exact hdrop_sub
theorem St.Wf.dropLoc (a : st'.Wf) (c : Nat) : St.Wf ⟨dropLoc c st'.h, st'.nx⟩ := ⟨fun n o ho => a.lt n o (hget_dropLoc_some ho), a.nd.sublist dropLoc_sub⟩
/-- Is it a block that goes with its call? -/
def AObj.lc : AObj → Bool
  | .cells _ true _ => true
  | _ => false
theorem hget_dropLoc_keep {c n : Nat} {o : AObj} (hw : st.Wf) (hg : hget st.h n = some o) (hl : o.lc = false) : hget (dropLoc c st.h) n = some o := by
  rw [dropLoc_eq, hget_hdrop_iff, if_neg, hg]
  intro hm
  obtain ⟨ty, cs, hmem⟩ := mem_locNames_loc hm
  rw [mem_hget hw.nd hmem] at hg
  injection hg with e
  subst e
  cases hl

theorem Ext.dropLoc (a : Ext st st') : Ext st ⟨dropLoc st.nx st'.h, st'.nx⟩ :=
  ⟨a.nx, a.wf.dropLoc _, fun n hn => by rw [hget_dropLoc_lt hn, a.keep n hn]⟩

/-- Names laid aside. -/
theorem Ext.aside (h : st.Wf) (k : Nat) : Ext st ⟨st.h, st.nx + k⟩ := ⟨Nat.le_add_right _ _, ⟨fun n o ho => Nat.lt_of_lt_of_le (h.lt n o ho) (Nat.le_add_right _ _), h.nd⟩, fun _ _ => rfl⟩

theorem Frm.dropLoc {S : List Nat} (a : Frm S st st') : Frm S st ⟨Go.Ev.dropLoc st.nx st'.h, st'.nx⟩ :=
  ⟨a.nx, a.wf.dropLoc _, fun n hn hs => by rw [hget_dropLoc_lt hn, a.keep n hn hs]⟩

/-- An object is written. -/
theorem Frm.set (h : st.Wf) {n : Nat} {o p : AObj} (hg : hget st.h n = some p) : Frm [n] st ⟨hset st.h n o, st.nx⟩ :=
  ⟨Nat.le_refl _, ⟨fun m q hq => by
    rw [hget_hset hg] at hq
    split at hq
    · rename_i e; subst e; exact h.lt _ _ hg
    · exact h.lt _ _ hq, by show ((hset st.h n o).map _).Nodup; rw [hset_names]; exact h.nd⟩, fun m hm hs => by
    rw [hget_hset hg, if_neg]
    rintro rfl
    exact hs List.mem_cons_self⟩

/-- A new object. -/
theorem Ext.new (h : st.Wf) (o : AObj) : Ext st ⟨(st.nx, o) :: st.h, st.nx + 1⟩ := by
  refine ⟨Nat.le_succ _, ⟨fun n p hp => ?_, ?_⟩, fun n hn => ?_⟩
  · simp only [hget] at hp
    split at hp
    · rename_i e; subst e; exact Nat.lt_succ_self _
    · exact Nat.lt_succ_of_lt (h.lt n p hp)
  · simp only [List.map_cons, List.nodup_cons]
    refine ⟨fun hm => ?_, h.nd⟩
    obtain ⟨⟨m, p⟩, hm, e⟩ := List.mem_map.1 hm
    simp only at e
    subst e
    have := h.lt _ _ (mem_hget h.nd hm)
    omega
  · simp only [hget]
    rw [if_neg (by omega)]

/-- What a call comes to, from its body. -/
def callR (mf : MFun) (st : St) : Option (Ex × Env × St) → Option (AV × St)
  | some (.norm, e, s) | some (.ret, e, s) => (fresults s.h e mf.results).map fun v => (v, ⟨dropLoc st.nx s.h, s.nx⟩)
  | _ => none

theorem call_fn {k : Nat} {mf : MFun} (hen : T.en k = none) (hf : T.fn k = some mf) {first args cap : List AV} (hl : (first ++ args ++ cap).length = mf.nargs) :
    call T (.fn k first cap) args st = callR mf st (run T mf.body (argEnv 0 (first ++ args ++ cap)) st) := by
  simp only [call, evCall, evCallF, hen, hf]
  rw [if_pos hl]
  unfold callR
  split <;> rename_i h1 <;> simp only [h1]
  · cases fresults _ _ mf.results <;> rfl
  · cases fresults _ _ mf.results <;> rfl

/-- A result, and what holds of it. -/
def Res (r : Option (Ex × Env × St)) (Q : Ex → Env → St → Prop) : Prop := match r with | some (x, e, s) => Q x e s | none => False
@[go_sem] theorem Res_some (x : Ex) (s : St) (Q : Ex → Env → St → Prop) : Res (some (x, e, s)) Q = Q x e s := rfl

theorem Res.elim {r : Option (Ex × Env × St)} {Q : Ex → Env → St → Prop} (h : Res r Q) : ∃ x e s, r = some (x, e, s) ∧ Q x e s := by
  unfold Res at h
  split at h
  · exact ⟨_, _, _, rfl, h⟩
  · exact h.elim

theorem Res.mono {r : Option (Ex × Env × St)} {Q R : Ex → Env → St → Prop} (h : Res r Q) (hq : ∀ x e s, Q x e s → R x e s) : Res r R := by
  obtain ⟨x, e, s, rfl, h⟩ := h.elim
  exact hq _ _ _ h

/-- The same for operations, and for calls. -/
def ORes (r : Option (Env × St)) (Q : Env → St → Prop) : Prop := match r with | some (e, s) => Q e s | none => False
def CRes (r : Option (AV × St)) (Q : AV → St → Prop) : Prop := match r with | some (v, s) => Q v s | none => False
@[go_sem] theorem ORes_some (s : St) (Q : Env → St → Prop) : ORes (some (e, s)) Q = Q e s := rfl
@[go_sem] theorem CRes_some (v : AV) (s : St) (Q : AV → St → Prop) : CRes (some (v, s)) Q = Q v s := rfl

/-- What follows, as data: nothing of it is looked into before it is reached. -/
def kSeq (T : Tab) (b : MCode) (Q : Ex → Env → St → Prop) (x : Ex) (e : Env) (s : St) : Prop := Res (seqR T b (some (x, e, s))) Q
@[go_sem] theorem kSeq_norm (b : MCode) (Q : Ex → Env → St → Prop) (s : St) : kSeq T b Q .norm e s = Res (run T b e s) Q := rfl
@[go_sem] theorem kSeq_exit (b : MCode) (Q : Ex → Env → St → Prop) (i : Nat) (s : St) : kSeq T b Q (.exit i) e s = Q (.exit i) e s := rfl
@[go_sem] theorem kSeq_ret (b : MCode) (Q : Ex → Env → St → Prop) (s : St) : kSeq T b Q .ret e s = Q .ret e s := rfl
@[go_sem] theorem Res_seqR (b : MCode) (r : Option (Ex × Env × St)) (Q : Ex → Env → St → Prop) : Res (seqR T b r) Q = Res r (kSeq T b Q) := by
  cases r with
  | none => rfl
  | some p => obtain ⟨x, e, s⟩ := p; rfl
def kBlk (i : Nat) (Q : Ex → Env → St → Prop) (x : Ex) (e : Env) (s : St) : Prop := Res (blockE i (some (x, e, s))) Q
@[go_sem] theorem kBlk_norm (i : Nat) (Q : Ex → Env → St → Prop) (s : St) : kBlk i Q .norm e s = Q .norm e s := rfl
@[go_sem] theorem kBlk_ret (i : Nat) (Q : Ex → Env → St → Prop) (s : St) : kBlk i Q .ret e s = Q .ret e s := rfl
@[go_sem] theorem kBlk_exit (i j : Nat) (Q : Ex → Env → St → Prop) (s : St) : kBlk i Q (.exit j) e s = if j = i then Q .norm e s else Q (.exit j) e s := by
  unfold kBlk
  rw [blockE_exit]
  split <;> rfl
@[go_sem] theorem Res_blockE (i : Nat) (r : Option (Ex × Env × St)) (Q : Ex → Env → St → Prop) : Res (blockE i r) Q = Res r (kBlk i Q) := by
  cases r with
  | none => rfl
  | some p => obtain ⟨x, e, s⟩ := p; rfl
def kE (Q : Ex → Env → St → Prop) (e : Env) (s : St) : Prop := Q .norm e s
@[go_sem] theorem kE_eq (Q : Ex → Env → St → Prop) (s : St) : kE Q e s = Q .norm e s := rfl
@[go_sem] theorem Res_opsE (r : Option (Env × St)) (Q : Ex → Env → St → Prop) : Res (opsE r) Q = ORes r (kE Q) := by
  cases r <;> rfl
def kOps (call : CallF) (l : List MI) (K : Env → St → Prop) (e : Env) (s : St) : Prop := ORes (runOps call l e s) K
@[go_sem] theorem kOps_eq (call : CallF) (l : List MI) (K : Env → St → Prop) (s : St) : kOps call l K e s = ORes (runOps call l e s) K := rfl
@[go_sem] theorem ORes_opsR (call : CallF) (l : List MI) (r : Option (Env × St)) (K : Env → St → Prop) : ORes (opsR call l r) K = ORes r (kOps call l K) := by
  cases r <;> rfl
def kPut (d : Option Nat) (e : Env) (K : Env → St → Prop) (v : AV) (s : St) : Prop := K (eput e d v) s
@[go_sem] theorem kPut_eq (d : Option Nat) (K : Env → St → Prop) (v : AV) (s : St) : kPut d e K v s = K (eput e d v) s := rfl
@[go_sem] theorem ORes_miR (d : Option Nat) (r : Option (AV × St)) (K : Env → St → Prop) : ORes (miR d e r) K = CRes r (kPut d e K) := by
  cases r <;> rfl

/-- The operations of a drawn region. -/
def IRes (r : Option (Env × St × Nat)) (Q : Env → St → Nat → Prop) : Prop := match r with | some (e, s, n) => Q e s n | none => False
@[go_sem] theorem IRes_some (s : St) (n : Nat) (Q : Env → St → Nat → Prop) : IRes (some (e, s, n)) Q = Q e s n := rfl
def kR (call : CallF) (d : List (Nat × MI)) (l : List RI) (K : Env → St → Prop) (e : Env) (s : St) (nm : Nat) : Prop := ORes (runR call d nm l e s) K
@[go_sem] theorem kR_eq (call : CallF) (d : List (Nat × MI)) (l : List RI) (K : Env → St → Prop) (s : St) (nm : Nat) : kR call d l K e s nm = ORes (runR call d nm l e s) K := rfl
@[go_sem] theorem runR_end (call : CallF) (d : List (Nat × MI)) (nm : Nat) (s : St) : runR call d nm [] e s = some (e, s) := rfl
@[go_sem] theorem runR_op (call : CallF) (d : List (Nat × MI)) (nm i : Nat) (o : MI) (l : List RI) (s : St) (K : Env → St → Prop) :
    ORes (runR call d nm (.op i o :: l) e s) K = IRes (runI call nm o e s) (kR call ((i, o) :: d) l K) := by
  simp only [runR]
  cases runI call nm o e s with
  | none => rfl
  | some p => obtain ⟨e, s, n⟩ := p; rfl
@[go_sem] theorem runR_re (call : CallF) (d : List (Nat × MI)) (nm i : Nat) (l : List RI) (s : St) (K : Env → St → Prop) :
    ORes (runR call d nm (.re i :: l) e s) K = (reI d i e s = true ∧ ORes (runR call d nm l e s) K) := by
  simp only [runR]
  by_cases h : reI d i e s = true
  · simp [h]
  · simp [h, ORes]
@[go_sem] theorem dfind_cons (j i : Nat) (o : MI) (r : List (Nat × MI)) : dfind ((j, o) :: r) i = if j = i then some o else dfind r i := rfl

/-- An operation that is no new block. -/
def iR (nm : Nat) (d : Option Nat) (e : Env) : Option (AV × St) → Option (Env × St × Nat)
  | some (v, s) => some (eput e d v, s, nm)
  | none => none
def kPutI (nm : Nat) (d : Option Nat) (e : Env) (Q : Env → St → Nat → Prop) (v : AV) (s : St) : Prop := Q (eput e d v) s nm
@[go_sem] theorem kPutI_eq (nm : Nat) (d : Option Nat) (Q : Env → St → Nat → Prop) (v : AV) (s : St) : kPutI nm d e Q v s = Q (eput e d v) s nm := rfl
@[go_sem] theorem IRes_iR (nm : Nat) (d : Option Nat) (r : Option (AV × St)) (Q : Env → St → Nat → Prop) : IRes (iR nm d e r) Q = CRes r (kPutI nm d e Q) := by
  cases r <;> rfl
@[go_sem] theorem runI_p (call : CallF) (nm : Nat) (d : Option Nat) (p : PO) (s : St) : runI call nm ⟨d, none, .p p⟩ e s = iR nm d e (MO.run call (AO.ev e) s (.p p)) := by
  simp only [runI, wanted]; cases MO.run call (AO.ev e) s (.p p) <;> rfl
@[go_sem] theorem runI_r (call : CallF) (nm : Nat) (d : Option Nat) (p : RO) (s : St) : runI call nm ⟨d, none, .r p⟩ e s = iR nm d e (MO.run call (AO.ev e) s (.r p)) := by
  simp only [runI, wanted]; cases MO.run call (AO.ev e) s (.r p) <;> rfl
@[go_sem] theorem runI_w (call : CallF) (nm : Nat) (d : Option Nat) (p : WO) (s : St) : runI call nm ⟨d, none, .w p⟩ e s = iR nm d e (MO.run call (AO.ev e) s (.w p)) := by
  simp only [runI, wanted]; cases MO.run call (AO.ev e) s (.w p) <;> rfl
@[go_sem] theorem runI_n (call : CallF) (nm : Nat) (d : Option Nat) (p : NO) (s : St) : runI call nm ⟨d, none, .n p⟩ e s = (NO.run (AO.ev e) nm p).map fun q => (eput e d q.1, ⟨(nm, q.2) :: s.h, s.nx⟩, nm + 1) := by
  simp only [runI, wanted]; cases NO.run (AO.ev e) nm p <;> rfl
/-- The same under a guard. -/
def igR (call : CallF) (nm : Nat) (d : Option Nat) (b : Bool) (o : MO) (e : Env) (s : St) : AV → Option (Env × St × Nat)
  | .bool c => if c = b then runI call nm ⟨d, none, o⟩ e s else some (eput e d unmade, s, nm)
  | .tuple _ => some (eput e d unmade, s, nm)
  | _ => none
@[go_sem] theorem igR_bool (call : CallF) (nm : Nat) (d : Option Nat) (b c : Bool) (o : MO) (s : St) : igR call nm d b o e s (.bool c) = if c = b then runI call nm ⟨d, none, o⟩ e s else some (eput e d unmade, s, nm) := rfl
@[go_sem] theorem igR_tuple (call : CallF) (nm : Nat) (d : Option Nat) (b : Bool) (o : MO) (l : List AV) (s : St) : igR call nm d b o e s (.tuple l) = some (eput e d unmade, s, nm) := rfl
@[go_sem] theorem runI_guard (call : CallF) (nm : Nat) (d : Option Nat) (t : Nat) (b : Bool) (o : MO) (s : St) : runI call nm ⟨d, some (t, b), o⟩ e s = igR call nm d b o e s (eget e t) := by
  simp only [runI, wanted]
  cases hv : eget e t with
  | bool c =>
    simp only [igR]
    cases hcb : c == b with
    | true =>
      rw [if_pos (by simpa using hcb)]
      simp only [runI, wanted]
    | false => rw [if_neg (by simpa using hcb)]
  | _ => rfl

mutual
theorem avEq_refl : ∀ a : AV, avEq a a = true
  | .bot | .nilptr | .nilslice | .nilmap | .nilfn | .niliface => rfl
  | .bool b => by simp [avEq]
  | .int k n => by simp [avEq]
  | .str s => by simp only [avEq]; exact seq8_iff.2 rfl
  | .ptr n o => by simp [avEq]
  | .slice n o l c => by simp [avEq]
  | .map n => by simp [avEq]
  | .fn f a b => by simp [avEq, avEqs_refl a, avEqs_refl b]
  | .yield l => by simp [avEq]
  | .iface t v => by simp [avEq, avEq_refl v]
  | .agg a => by simp [avEq, avEqs_refl a]
  | .tuple a => by simp [avEq, avEqs_refl a]
theorem avEqs_refl : ∀ a : List AV, avEqs a a = true
  | [] => rfl
  | x :: a => by simp [avEqs, avEq_refl x, avEqs_refl a]
end
attribute [go_sem] avEq_refl

/-- One cell is written. -/
theorem wr_cells {h : Heap} {n o ty : Nat} {loc : Bool} {cs : List AV} {v : AV} (hg : hget h n = some (.cells ty loc cs)) (hv : v.sc = true) (ho : o < cs.length) : wrCells h n o [v] = some (hset h n (.cells ty loc (cs.set o v))) := by
  simp only [wrCells, hg, List.length_singleton, List.all_cons, List.all_nil, hv, Bool.and_self, and_true, splice]
  rw [if_pos (by omega)]
theorem wr_buf {h : Heap} {n o ty es : Nat} {cs : List AV} {v : AV} (hg : hget h n = some (.buf ty es cs)) (hv : v.sc = true) (ho : o < cs.length) : wrCells h n o [v] = some (hset h n (.buf ty es (cs.set o v))) := by
  simp only [wrCells, hg, List.length_singleton, List.all_cons, List.all_nil, hv, Bool.and_self, and_true, splice]
  rw [if_pos (by omega)]
@[go_sem] theorem acells_int (k : IntKind) (n : Int) : acells (.int k n) = [.int k n] := rfl
@[go_sem] theorem acells_bool (b : Bool) : acells (.bool b) = [.bool b] := rfl
@[go_sem] theorem acells_slice (n o l : Nat) (c : Cap) : acells (.slice n o l c) = [.slice n o l c] := rfl
@[go_sem] theorem acells_nil : acells .nilslice = [.nilslice] := rfl
@[go_sem] theorem acells_str (s : List UInt8) : acells (.str s) = [.str s] := rfl
@[go_sem] theorem acells_ptr (n o : Nat) : acells (.ptr n o) = [.ptr n o] := rfl
@[go_sem] theorem acells_agg (cs : List AV) : acells (.agg cs) = cs := rfl
@[go_sem] theorem sc_int (k : IntKind) (n : Int) : (AV.int k n).sc = true := rfl
@[go_sem] theorem sc_bool (b : Bool) : (AV.bool b).sc = true := rfl
@[go_sem] theorem sc_slice (n o l : Nat) (c : Cap) : (AV.slice n o l c).sc = true := rfl
@[go_sem] theorem sc_nil : AV.nilslice.sc = true := rfl
@[go_sem] theorem sc_str (s : List UInt8) : (AV.str s).sc = true := rfl
@[go_sem] theorem sc_ptr (n o : Nat) : (AV.ptr n o).sc = true := rfl

theorem CRes.elim {r : Option (AV × St)} {Q : AV → St → Prop} (h : CRes r Q) : ∃ v s, r = some (v, s) ∧ Q v s := by
  unfold CRes at h
  split at h
  · exact ⟨_, _, rfl, h⟩
  · exact h.elim
theorem CRes.mono {r : Option (AV × St)} {Q R : AV → St → Prop} (h : CRes r Q) (hq : ∀ v s, Q v s → R v s) : CRes r R := by
  obtain ⟨v, s, rfl, h⟩ := h.elim
  exact hq _ _ h

/-- A function that only tells. -/
def Tells (T : Tab) (st : St) (f : AV) (args : List AV) (v : AV) : Prop := CRes (call T f args st) fun v' s => v' = v ∧ Ext st s

theorem Tells.use {f : AV} {args : List AV} {v : AV} {Q : AV → St → Prop} (h : Tells T st f args v) (hq : ∀ s, Ext st s → Q v s) : CRes (call T f args st) Q :=
  CRes.mono h (by rintro v' s ⟨rfl, hx⟩; exact hq s hx)

/-- A call, by its body. -/
theorem call_res {k : Nat} {mf : MFun} (hen : T.en k = none) (hf : T.fn k = some mf) {first args cap : List AV} (hl : (first ++ args ++ cap).length = mf.nargs) {Q : AV → St → Prop}
    (hr : Res (run T mf.body (argEnv 0 (first ++ args ++ cap)) st) fun x e s => (x = .norm ∨ x = .ret) ∧ ∃ v, fresults s.h e mf.results = some v ∧ Q v ⟨dropLoc st.nx s.h, s.nx⟩) :
    CRes (call T (.fn k first cap) args st) Q := by
  obtain ⟨x, e, s, h1, h2, v, h3, h4⟩ := hr.elim
  rw [call_fn hen hf hl, h1]
  rcases h2 with rfl | rfl <;> simp only [callR, h3, Option.map_some, CRes_some] <;> exact h4

theorem tells_of {k : Nat} {mf : MFun} (hen : T.en k = none) (hf : T.fn k = some mf) {first args cap : List AV} (hl : (first ++ args ++ cap).length = mf.nargs) {v : AV}
    (hr : Res (run T mf.body (argEnv 0 (first ++ args ++ cap)) st) fun x e s => (x = .norm ∨ x = .ret) ∧ fresults s.h e mf.results = some v ∧ Ext st s) :
    Tells T st (.fn k first cap) args v :=
  call_res hen hf hl (hr.mono fun _ _ _ ⟨h1, h2, h3⟩ => ⟨h1, v, h2, rfl, h3.dropLoc⟩)

@[go_sem] theorem fresults_one (h : Heap) (t : Nat) : fresults h e [.t t] = some (eget e t) := rfl
@[go_sem] theorem fresults_none (h : Heap) : fresults h e [] = some (.tuple []) := rfl
@[go_sem] theorem fresults_two (h : Heap) (t u : Nat) : fresults h e [.t t, .t u] = some (.tuple [eget e t, eget e u]) := rfl
@[go_sem] theorem fresults_three (h : Heap) (t u v : Nat) : fresults h e [.t t, .t u, .t v] = some (.tuple [eget e t, eget e u, eget e v]) := rfl
attribute [go_sem] afold aminmax argEnv List.getElem?_cons_zero List.getElem?_cons_succ

end Go.Ev

/- Bits and octets: plain laws. -/
namespace Go.Ev
open Go
set_option linter.unusedSimpArgs false
set_option linter.unusedVariables false

/-- The number that bits write. -/
def horner (l : List Bool) : Nat := l.foldl (fun a b => 2 * a + b.toNat) 0

theorem horner_snoc (l : List Bool) (x : Bool) : horner (l ++ [x]) = 2 * horner l + x.toNat := by simp [horner]

def chunk (l : List Bool) (k : Nat) : List Bool := (l.drop (8 * k)).take 8

/-- The octet of up to eight bits. -/
def octet (c : List Bool) : Nat := horner c * 2 ^ (8 - c.length)

def packN (l : List Bool) : List Nat := (List.range ((l.length + 7) / 8)).map fun k => octet (chunk l k)

theorem packN_length (l : List Bool) : (packN l).length = (l.length + 7) / 8 := by simp [packN]

theorem packN_get {l : List Bool} {k : Nat} (h : k < (l.length + 7) / 8) : (packN l)[k]? = some (octet (chunk l k)) := by
  simp [packN, h]

theorem foldl_lt : ∀ (l : List Bool) (a : Nat), l.foldl (fun a b => 2 * a + b.toNat) a < (a + 1) * 2 ^ l.length
  | [], a => by simp
  | x :: l, a => by
    have h := foldl_lt l (2 * a + x.toNat)
    have hx : x.toNat ≤ 1 := by cases x <;> simp
    rw [List.foldl_cons, List.length_cons, Nat.pow_succ]
    have h2 : (2 * a + x.toNat + 1) * 2 ^ l.length ≤ (2 * (a + 1)) * 2 ^ l.length := Nat.mul_le_mul_right _ (by omega)
    have h3 : (2 * (a + 1)) * 2 ^ l.length = (a + 1) * (2 ^ l.length * 2) := by rw [Nat.mul_comm 2, Nat.mul_assoc, Nat.mul_comm 2]
    omega

theorem horner_lt (l : List Bool) : horner l < 2 ^ l.length := by
  have := foldl_lt l 0
  simpa [horner] using this

theorem octet_lt {c : List Bool} (h : c.length ≤ 8) : octet c < 256 := by
  unfold octet
  have h1 := horner_lt c
  have h2 : 2 ^ c.length * 2 ^ (8 - c.length) = 256 := by rw [← Nat.pow_add]; rw [show c.length + (8 - c.length) = 8 by omega]
  calc horner c * 2 ^ (8 - c.length) < 2 ^ c.length * 2 ^ (8 - c.length) := Nat.mul_lt_mul_of_pos_right h1 (Nat.two_pow_pos _)
    _ = 256 := h2

theorem chunk_length (l : List Bool) (k : Nat) : (chunk l k).length = min 8 (l.length - 8 * k) := by simp [chunk]

theorem chunk_old {l : List Bool} {x : Bool} {k : Nat} (h : 8 * k + 8 ≤ l.length) : chunk (l ++ [x]) k = chunk l k := by
  unfold chunk
  rw [List.drop_append_of_le_length (by omega), List.take_append_of_le_length (by simp; omega)]

theorem chunk_new {l : List Bool} {x : Bool} : chunk (l ++ [x]) (l.length / 8) = chunk l (l.length / 8) ++ [x] := by
  unfold chunk
  rw [List.drop_append_of_le_length (by omega), List.take_of_length_le (by simp; omega), List.take_of_length_le (by simp; omega)]

theorem octet_snoc {c : List Bool} {x : Bool} (h : c.length < 8) : octet (c ++ [x]) = octet c ||| (x.toNat * 2 ^ (7 - c.length)) := by
  unfold octet
  rw [horner_snoc, List.length_append, List.length_singleton]
  have e : 8 - c.length = (7 - c.length) + 1 := by omega
  have hx : x.toNat * 2 ^ (7 - c.length) < 2 ^ (8 - c.length) := by
    rw [e, Nat.pow_succ]
    have := Nat.two_pow_pos (7 - c.length)
    cases x
    · simp; omega
    · simp; omega
  rw [Nat.mul_comm (horner c), ← Nat.two_pow_add_eq_or_of_lt hx]
  rw [show 8 - (c.length + 1) = 7 - c.length by omega, e, Nat.pow_succ, Nat.add_mul]
  congr 1
  rw [Nat.mul_comm 2 (horner c), Nat.mul_assoc, Nat.mul_comm]
  rw [Nat.mul_comm 2]

theorem ofInt_ofNat (k n : Nat) : BitVec.ofInt k (n : Int) = BitVec.ofNat k n := BitVec.ofInt_natCast k n

theorem u8_or {a b : Nat} (ha : a < 256) (hb : b < 256) : IntKind.u8.wrap ((BitVec.ofInt IntKind.u8.bits (a : Int) ||| BitVec.ofInt IntKind.u8.bits (b : Int)).toNat : Int) = ((a ||| b : Nat) : Int) := by
  have hor : a ||| b < 2 ^ 8 := Nat.or_lt_two_pow ha hb
  have h1 : (BitVec.ofInt IntKind.u8.bits (a : Int) ||| BitVec.ofInt IntKind.u8.bits (b : Int)).toNat = a ||| b := by
    rw [ofInt_ofNat, ofInt_ofNat]
    show (BitVec.ofNat 8 a ||| BitVec.ofNat 8 b).toNat = _
    rw [BitVec.toNat_or, BitVec.toNat_ofNat, BitVec.toNat_ofNat, Nat.mod_eq_of_lt ha, Nat.mod_eq_of_lt hb]
  rw [h1]
  simp [IntKind.wrap, IntKind.signed, IntKind.bits]
  omega

theorem i64_and_one {a : Nat} (ha : a < 2 ^ 63) : IntKind.i64.wrap ((BitVec.ofInt IntKind.i64.bits (a : Int) &&& BitVec.ofInt IntKind.i64.bits 1).toNat : Int) = ((a % 2 : Nat) : Int) := by
  have h1 : (BitVec.ofInt IntKind.i64.bits (a : Int) &&& BitVec.ofInt IntKind.i64.bits 1).toNat = a % 2 := by
    rw [show (1 : Int) = ((1 : Nat) : Int) from rfl, ofInt_ofNat, ofInt_ofNat]
    show (BitVec.ofNat 64 a &&& BitVec.ofNat 64 1).toNat = _
    rw [BitVec.toNat_and, BitVec.toNat_ofNat, BitVec.toNat_ofNat, Nat.mod_eq_of_lt (show a < 2 ^ 64 by omega)]
    exact Nat.and_one_is_mod a
  rw [h1]
  rw [wrap64_id (by omega) (by omega)]

/-- One bit more. -/
theorem packN_snoc_in {l : List Bool} {x : Bool} (h : l.length % 8 ≠ 0) :
    packN (l ++ [x]) = (packN l).set (l.length / 8) (octet (chunk l (l.length / 8)) ||| (x.toNat * 2 ^ (7 - l.length % 8))) := by
  apply List.ext_getElem?
  intro k
  have hlen : (l ++ [x]).length = l.length + 1 := by simp
  have hn : (l.length + 1 + 7) / 8 = (l.length + 7) / 8 := by omega
  rw [List.getElem?_set, packN_length]
  by_cases hk : k < (l.length + 7) / 8
  · rw [packN_get (by rw [hlen]; omega)]
    by_cases he : l.length / 8 = k
    · subst he
      rw [if_pos rfl, if_pos (by omega), chunk_new]
      have hcl : (chunk l (l.length / 8)).length = l.length % 8 := by rw [chunk_length]; omega
      rw [octet_snoc (by omega), hcl]
    · rw [if_neg he, packN_get hk, chunk_old (by omega)]
  · rw [List.getElem?_eq_none (by rw [packN_length, hlen]; omega)]
    rw [if_neg (by omega), List.getElem?_eq_none (by rw [packN_length]; omega)]

theorem packN_snoc_new {l : List Bool} {x : Bool} (h : l.length % 8 = 0) :
    packN (l ++ [x]) = (packN l ++ [0]).set (l.length / 8) (0 ||| (x.toNat * 2 ^ (7 - l.length % 8))) := by
  apply List.ext_getElem?
  intro k
  have hlen : (l ++ [x]).length = l.length + 1 := by simp
  rw [List.getElem?_set, List.length_append, packN_length, List.length_singleton]
  by_cases hk : k < (l.length + 1 + 7) / 8
  · rw [packN_get (by rw [hlen]; omega)]
    by_cases he : l.length / 8 = k
    · subst he
      rw [if_pos rfl, if_pos (by omega), chunk_new]
      have hcl : (chunk l (l.length / 8)).length = 0 := by rw [chunk_length]; omega
      have hc0 : chunk l (l.length / 8) = [] := List.length_eq_zero_iff.1 hcl
      rw [octet_snoc (by omega), hcl, hc0, h]
      rfl
    · rw [if_neg he, List.getElem?_append_left (by rw [packN_length]; omega), packN_get (by omega), chunk_old (by omega)]
  · rw [List.getElem?_eq_none (by rw [packN_length, hlen]; omega)]
    rw [if_neg (by omega), List.getElem?_eq_none (by rw [List.length_append, packN_length, List.length_singleton]; omega)]

theorem iand_one {a : Int} (h0 : 0 ≤ a) (h1 : a < 9223372036854775808) : iand .i64 a 1 = a % 2 := by
  obtain ⟨n, rfl⟩ := Int.eq_ofNat_of_zero_le h0
  unfold iand
  rw [i64_and_one (by omega)]
  omega

theorem ior_u8 {a b : Nat} (ha : a < 256) (hb : b < 256) : ior .u8 (a : Int) (b : Int) = ((a ||| b : Nat) : Int) := u8_or ha hb

theorem ishr_nat {k : IntKind} {a : Int} {b : Nat} (h0 : 0 ≤ a) (hb : b ≤ k.bits) : ishr k a (b : Int) = a / 2 ^ b := by
  unfold ishr
  rw [Int.toNat_natCast, Nat.min_eq_left hb, Int.fdiv_eq_ediv_of_nonneg _ (Int.natCast_nonneg _)]
  push_cast; rfl

theorem wrap_u8 {a : Int} (h0 : 0 ≤ a) (h1 : a < 256) : IntKind.u8.wrap a = a := by
  simp [IntKind.wrap, IntKind.signed, IntKind.bits]; omega

theorem ishl_bit {x : Bool} {r : Nat} (hr : r < 8) : ishl .u8 (x.toNat : Int) (7 - (r : Int)) = ((x.toNat * 2 ^ (7 - r) : Nat) : Int) := by
  unfold ishl
  have h1 : (7 - (r : Int)).toNat = 7 - r := by omega
  have h2 : min (7 - r) IntKind.u8.bits = 7 - r := by simp [IntKind.bits]; omega
  rw [h1, h2]
  have h3 : (x.toNat : Int) * ((2 ^ (7 - r) : Nat) : Int) = ((x.toNat * 2 ^ (7 - r) : Nat) : Int) := by push_cast; rfl
  rw [h3]
  have h4 : 2 ^ (7 - r) ≤ 2 ^ 7 := Nat.pow_le_pow_right (by omega) (by omega)
  have h5 : x.toNat * 2 ^ (7 - r) ≤ 2 ^ 7 := by cases x <;> simp <;> omega
  rw [wrap_u8 (by omega) (by omega)]

end Go.Ev

/- Lists that grow: a slice value, and the cells that it holds. -/
namespace Go.Ev
open Go
set_option linter.unusedSimpArgs false
set_option linter.unusedVariables false

variable {T : Tab} {st : St}

/-- The state by what is known of it. -/
theorem Res.abs {c : MCode} {e : Env} {st : St} {Q : Ex → Env → St → Prop} (P : St → Prop) (hP : P st) (h : ∀ s, P s → Res (run T c e s) Q) : Res (run T c e st) Q := h st hP
theorem Res.and {r : Option (Ex × Env × St)} {P Q : Ex → Env → St → Prop} (a : Res r P) (b : Res r Q) : Res r fun x e s => P x e s ∧ Q x e s := by
  unfold Res at *
  split at a
  · exact ⟨a, b⟩
  · exact a.elim
theorem Frm.both {S R : List Nat} {st st' : St} (a : Frm S st st') (b : Frm R st st') (h : ∀ n ∈ S, n ∈ R → st.nx ≤ n) : Ext st st' :=
  ⟨a.nx, a.wf, fun n hn => by
    by_cases h1 : n ∈ S
    · by_cases h2 : n ∈ R
      · have := h n h1 h2; omega
      · exact b.keep n hn h2
    · exact a.keep n hn h1⟩
theorem Frm.hdel (h : st.Wf) (n : Nat) : Frm [n] st ⟨hdel st.h n, st.nx⟩ :=
  ⟨Nat.le_refl _, ⟨fun m q hq => by
    rw [hget_hdel] at hq
    split at hq
    · cases hq
    · exact h.lt _ _ hq, h.nd.sublist hdel_sub⟩, fun m hm hs => by
    rw [hget_hdel, if_neg]
    rintro rfl
    exact hs List.mem_cons_self⟩
theorem Frm.refl (h : st.Wf) (S : List Nat) : Frm S st st := (Ext.refl h).fr S

/-- A new object is written. -/
theorem Ext.setNew {st s : St} (a : Ext st s) {n : Nat} {o p : AObj} (hg : hget s.h n = some p) (hn : st.nx ≤ n) : Ext st ⟨hset s.h n o, s.nx⟩ :=
  ((a.fr []).trans (Frm.set a.wf hg) (fun m hm => .inr (by simp at hm; omega))).ext (by simp)

/-- What a slice holds: nothing, a block that has grown, or a block just made. -/
inductive SlAt (h : Heap) (v : AV) (n ty es k : Nat) (cs : List AV) : Prop where
  | nil : v = .nilslice → cs = [] → k = 0 → SlAt h v n ty es k cs
  | buf : v = .slice n 0 k .full → hget h n = some (.buf ty es cs) → cs.length = k * es → SlAt h v n ty es k cs
  | made (ty' : Nat) : v = .slice n 0 k (.known k) → hget h n = some (.cells ty' false cs) → cs.length = k * es → SlAt h v n ty es k cs

theorem SlAt.len {h : Heap} {v : AV} {n ty es k : Nat} {cs : List AV} (a : SlAt h v n ty es k cs) : cs.length = k * es := by
  rcases a with ⟨_, h2, h3⟩ | ⟨_, _, h⟩ | ⟨_, _, _, h⟩
  · subst h2; subst h3; simp
  · exact h
  · exact h

/-- The slice itself, seen by another state. -/
theorem SlAt.frm {st st' : St} {v : AV} {n ty es k : Nat} {cs : List AV} {S : List Nat} (a : SlAt st.h v n ty es k cs) (f : Frm S st st') (hw : st.Wf) (hn : n ∉ S) : SlAt st'.h v n ty es k cs := by
  rcases a with ⟨h1, h2, h3⟩ | ⟨h1, h2, h3⟩ | ⟨ty', h1, h2, h3⟩
  · exact .nil h1 h2 h3
  · exact .buf h1 (f.get hw h2 hn) h3
  · exact .made ty' h1 (f.get hw h2 hn) h3
theorem SlAt.ext {st st' : St} {v : AV} {n ty es k : Nat} {cs : List AV} (a : SlAt st.h v n ty es k cs) (f : Ext st st') (hw : st.Wf) : SlAt st'.h v n ty es k cs := a.frm (f.fr []) hw (by simp)

theorem SlAt.lenOf {h : Heap} {v : AV} {n ty es k : Nat} {cs : List AV} {ev : AO → AV} {x : AO} (a : SlAt h v n ty es k cs) (hx : ev x = v) : PO.run ev (.lenOf false x) = some (.int .i64 k) := by
  rcases a with ⟨h1, h2, h3⟩ | ⟨h1, h2, h3⟩ | ⟨ty', h1, h2, h3⟩
  · subst h3; simp [PO.run, hx, h1]
  · simp [PO.run, hx, h1]
  · simp [PO.run, hx, h1]

theorem SlAt.src {h : Heap} {v : AV} {n ty es k : Nat} {cs : List AV} (a : SlAt h v n ty es k cs) : srcCells h es v = some (k, cs) := by
  rcases a with ⟨h1, h2, h3⟩ | ⟨h1, h2, h3⟩ | ⟨ty', h1, h2, h3⟩
  · subst h1; subst h2; subst h3; rfl
  · subst h1; simp only [srcCells, rdCells, h2]; rw [if_pos (by omega)]; simp [← h3]
  · subst h1; simp only [srcCells, rdCells, h2]; rw [if_pos (by omega)]; simp [← h3]

/-- What append makes. -/
structure Grown (st : St) (n ty es k : Nat) (cs : List AV) (v : AV) (s : St) (n' : Nat) : Prop where
  sl : SlAt s.h v n' ty es k cs
  frm : Frm [n] st s
  new : n' = n ∨ st.nx ≤ n'
  lt : n < st.nx → n' < s.nx

theorem SlAt.append (hwf : st.Wf) {v x : AV} {n ty es k j b : Nat} {cs new : List AV} (a : SlAt st.h v n ty es k cs) (hx : srcCells st.h es x = some (j, new)) (hj : new.length = j * es)
    (hsc : new.all AV.sc = true) (hb : (k + j) * b ≤ 35184372088832) (hb' : k + j ≤ 35184372088832) (hm : 0 < j ∨ ¬ ∃ c, v = .slice n 0 k (.known c)) :
    CRes (aappend ty es b st v x) fun v' s => ∃ n', Grown st n ty es (k + j) (cs ++ new) v' s n' := by
  unfold aappend
  rw [hx]
  simp only
  have hnil0 : j = 0 → new = [] := fun h => List.length_eq_zero_iff.1 (by rw [hj, h]; simp)
  rcases a with ⟨h1, h2, h3⟩ | ⟨h1, h2, h3⟩ | ⟨ty', h1, h2, h3⟩
  · subst h1; subst h2; subst h3
    simp only [Nat.zero_add] at hb hb' ⊢
    by_cases hj0 : j = 0
    · rw [if_pos hj0]
      exact ⟨n, .nil rfl (by rw [hnil0 hj0]; rfl) hj0, .refl hwf _, .inl rfl, id⟩
    · rw [if_neg hj0, if_pos ⟨hb, hb'⟩]
      refine ⟨st.nx, .buf rfl (by simp [hget]) (by simpa using hj), (Ext.new hwf _).fr _, .inr (Nat.le_refl _), fun _ => Nat.lt_succ_self _⟩
  · subst h1
    simp only
    rw [if_pos ⟨hb, hb'⟩]
    simp only [h2]
    rw [if_pos ⟨trivial, trivial, trivial, h3, hsc⟩]
    by_cases hj0 : j = 0
    · rw [if_pos hj0]
      refine ⟨n, ?_, .refl hwf _, .inl rfl, id⟩
      subst hj0
      rw [hnil0 rfl]
      exact .buf rfl (by simpa using h2) (by simpa using h3)
    · rw [if_neg hj0]
      refine ⟨st.nx, .buf rfl (by simp [hget]) (by simp [h3, hj, Nat.add_mul]), ?_, .inr (Nat.le_refl _), fun _ => Nat.lt_succ_self _⟩
      exact (Frm.hdel hwf n).trans ((Ext.new (Frm.hdel hwf n).wf _).fr [n]) (by simp)
  · subst h1
    simp only
    have hj0 : 0 < j := by
      rcases hm with h | h
      · exact h
      · exact absurd ⟨k, rfl⟩ h
    rw [if_pos ⟨hb, hb'⟩, if_neg (by omega)]
    simp only [rdCells, h2]
    rw [if_pos (by omega)]
    refine ⟨st.nx, .buf rfl (by simp [hget, ← h3]) (by simp [h3, hj, Nat.add_mul]), (Ext.new hwf _).fr _, .inr (Nat.le_refl _), fun _ => Nat.lt_succ_self _⟩

/-- The value that append makes is no block just made. -/
theorem SlAt.grown_full {h : Heap} {n ty es k : Nat} {cs : List AV} (ty' : Nat) (hg : hget h n = some (.buf ty es cs)) (hl : cs.length = k * es) : SlAt h (.slice n 0 k .full) n ty es k cs := .buf rfl hg hl

theorem SlAt.rd {h : Heap} {v : AV} {n ty es k : Nat} {cs : List AV} (a : SlAt h v n ty es k cs) {o : Nat} (ho : o < cs.length) : rdCell h n o = cs[o]? := by
  rcases a with ⟨h1, h2, h3⟩ | ⟨h1, h2, h3⟩ | ⟨ty', h1, h2, h3⟩
  · subst h2; simp at ho
  · simp [rdCell, h2]
  · simp [rdCell, h2]
theorem SlAt.iaddr {h : Heap} {v : AV} {n ty es k : Nat} {cs : List AV} (a : SlAt h v n ty es k cs) {ev : AO → AV} {x i : AO} {kk : IntKind} {j : Int} (hx : ev x = v) (hi : ev i = .int kk j) (h0 : 0 ≤ j) (hk : j < k) :
    PO.run ev (.iaddrS es x i) = some (.ptr n (j.toNat * es)) := by
  rcases a with ⟨h1, h2, h3⟩ | ⟨h1, h2, h3⟩ | ⟨ty', h1, h2, h3⟩
  · omega
  · simp [PO.run, hx, hi, h1, h0, hk]
  · simp [PO.run, hx, hi, h1, h0, hk]
theorem SlAt.store (hwf : st.Wf) {v : AV} {n ty es k : Nat} {cs : List AV} (a : SlAt st.h v n ty es k cs) {o : Nat} (ho : o < cs.length) {x : AV} (hx : x.sc = true) :
    ∃ h', wrCells st.h n o [x] = some h' ∧ SlAt h' v n ty es k (cs.set o x) ∧ Frm [n] st ⟨h', st.nx⟩ := by
  rcases a with ⟨h1, h2, h3⟩ | ⟨h1, h2, h3⟩ | ⟨ty', h1, h2, h3⟩
  · subst h2; simp at ho
  · exact ⟨_, wr_buf h2 hx ho, .buf h1 (by rw [hget_hset h2, if_pos rfl]) (by simpa using h3), .set hwf h2⟩
  · exact ⟨_, wr_cells h2 hx ho, .made ty' h1 (by rw [hget_hset h2, if_pos rfl]) (by simpa using h3), .set hwf h2⟩

/-- What a slice holds stays when a call's own blocks go. -/
theorem SlAt.dropLoc (hwf : st.Wf) {v : AV} {n ty es k c : Nat} {cs : List AV} (a : SlAt st.h v n ty es k cs) : SlAt (Go.Ev.dropLoc c st.h) v n ty es k cs := by
  rcases a with ⟨h1, h2, h3⟩ | ⟨h1, h2, h3⟩ | ⟨ty', h1, h2, h3⟩
  · exact .nil h1 h2 h3
  · exact .buf h1 (hget_dropLoc_keep hwf h2 rfl) h3
  · exact .made ty' h1 (hget_dropLoc_keep hwf h2 rfl) h3
theorem splice_all : ∀ (a b : List AV) (o : Nat), o + b.length = a.length → splice a o b = a.take o ++ b
  | a, [], o, h => by simp only [splice, List.append_nil]; rw [List.take_of_length_le (by simpa using Nat.le_of_eq h.symm)]
  | a, v :: b, o, h => by
    simp only [splice]
    simp only [List.length_cons] at h
    rw [splice_all _ b (o + 1) (by simp; omega)]
    have h1 : (a.set o v).take (o + 1) = a.take o ++ [v] := by
      rw [List.take_set]
      apply List.ext_getElem?
      intro k
      rw [List.getElem?_set]
      by_cases e : o = k
      · subst e
        rw [if_pos rfl, if_pos (by simp; omega), List.getElem?_append_right (by simp; omega)]
        simp [show min o a.length = o by omega]
      · rw [if_neg e]
        by_cases hk : k < o
        · rw [List.getElem?_append_left (by simp; omega), List.getElem?_take, List.getElem?_take]
          rw [if_pos (by omega), if_pos hk]
        · rw [List.getElem?_eq_none (by simp; omega), List.getElem?_eq_none (by simp; omega)]
    rw [h1, List.append_assoc]; rfl
theorem splice_whole {a b : List AV} (h : b.length = a.length) : splice a 0 b = b := by
  rw [splice_all a b 0 (by omega)]; simp


theorem splice_mid : ∀ (b' b c a : List AV), b'.length = b.length → splice (a ++ (b ++ c)) a.length b' = a ++ (b' ++ c)
  | [], [], c, a, _ => rfl
  | v :: b', x :: b, c, a, h => by
    simp only [List.length_cons, Nat.add_right_cancel_iff] at h
    have h1 : (a ++ (x :: b ++ c)).set a.length v = (a ++ [v]) ++ (b ++ c) := by
      rw [List.set_append_right _ _ (Nat.le_refl _)]; simp
    simp only [splice]
    rw [h1]
    have := splice_mid b' b c (a ++ [v]) h
    rw [List.length_append, List.length_singleton] at this
    rw [this]; simp

theorem rd_all {h : Heap} {n ty k : Nat} {l : Bool} {cs : List AV} (hg : hget h n = some (.cells ty l cs)) (hk : cs.length = k) : rdCells h n 0 k = some cs := by
  simp only [rdCells, hg]
  rw [if_pos (by omega), List.drop_zero, List.take_of_length_le (by omega)]
theorem rd_part {h : Heap} {n ty k o : Nat} {l : Bool} {cs : List AV} (hg : hget h n = some (.cells ty l cs)) (hk : o + k ≤ cs.length) : rdCells h n o k = some ((cs.drop o).take k) := by
  simp only [rdCells, hg]
  rw [if_pos (by omega)]
theorem wr_all {h : Heap} {n ty : Nat} {l : Bool} {cs vs : List AV} (hg : hget h n = some (.cells ty l cs)) (hk : vs.length = cs.length) (hs : vs.all AV.sc = true) : wrCells h n 0 vs = some (hset h n (.cells ty l vs)) := by
  simp only [wrCells, hg]
  rw [if_pos ⟨by omega, hs⟩, splice_whole hk]
theorem wr_part {h : Heap} {n ty o : Nat} {l : Bool} {cs vs : List AV} (hg : hget h n = some (.cells ty l cs)) (hk : o + vs.length ≤ cs.length) (hs : vs.all AV.sc = true) : wrCells h n o vs = some (hset h n (.cells ty l (splice cs o vs))) := by
  simp only [wrCells, hg]
  rw [if_pos ⟨hk, hs⟩]

attribute [go_sem] RO.run NO.run WO.run afill splice AV.nb apart

end Go.Ev

/- Slices by what they hold, whatever their block is called. -/
namespace Go.Ev
open Go
set_option linter.unusedSimpArgs false
set_option linter.unusedVariables false

variable {T : Tab} {st : St}

/-- The block of a slice. -/
def AV.nms : AV → List Nat
  | .slice n _ _ _ => [n]
  | _ => []

/-- A slice that can grow. -/
def Sl (s : St) (v : AV) (ty es k : Nat) (cs : List AV) : Prop := ∃ n, SlAt s.h v n ty es k cs
/-- A slice that can be read. -/
def Rd (h : Heap) (v : AV) (es k : Nat) (cs : List AV) : Prop := (v = .nilslice ∧ k = 0 ∧ cs = []) ∨ ∃ n off cp, v = .slice n off k cp ∧ rdCells h n off (k * es) = some cs
/-- Its block is one of these, or new. -/
def Mine (S : List Nat) (st : St) (v : AV) : Prop := ∀ n ∈ v.nms, n ∈ S ∨ st.nx ≤ n

theorem Sl.nil (s : St) (ty es : Nat) : Sl s .nilslice ty es 0 [] := ⟨0, .nil rfl rfl rfl⟩
theorem Mine.nil (S : List Nat) (s : St) : Mine S s .nilslice := fun n h => by cases h
theorem Mine.mono {S R : List Nat} {st s : St} {v : AV} (a : Mine S s v) (h : ∀ n ∈ S, n ∈ R ∨ st.nx ≤ n) (hn : st.nx ≤ s.nx) : Mine R st v := fun n hm => by
  rcases a n hm with h1 | h1
  · exact h n h1
  · exact .inr (Nat.le_trans hn h1)
theorem Mine.ext {S : List Nat} {st s : St} {v : AV} (a : Mine S s v) (hn : st.nx ≤ s.nx) : Mine S st v := a.mono (fun n h => .inl h) hn

theorem rdCells_len {h : Heap} {n off c : Nat} {cs : List AV} (a : rdCells h n off c = some cs) : cs.length = c := by
  unfold rdCells at a
  split at a
  all_goals
    first
    | (split at a
       · injection a with a; rw [← a]; simp; omega
       · cases a)
    | cases a
theorem rdCells_get {h : Heap} {n off c i : Nat} {cs : List AV} (a : rdCells h n off c = some cs) (hi : i < c) : rdCell h n (off + i) = cs[i]? := by
  unfold rdCells at a
  unfold rdCell
  split at a
  all_goals
    first
    | (split at a
       · injection a with a; rw [← a]; simp [hi]
       · cases a)
    | cases a
theorem rdCells_some {h : Heap} {n off c : Nat} {cs : List AV} (a : rdCells h n off c = some cs) : ∃ o, hget h n = some o := by
  unfold rdCells at a
  split at a
  · exact ⟨_, by assumption⟩
  · exact ⟨_, by assumption⟩
  · exact ⟨_, by assumption⟩
  · cases a

theorem Rd.len {h : Heap} {v : AV} {es k : Nat} {cs : List AV} (a : Rd h v es k cs) : cs.length = k * es := by
  rcases a with ⟨_, h2, h3⟩ | ⟨n, off, cp, _, h2⟩
  · subst h2; subst h3; simp
  · exact rdCells_len h2
theorem Rd.lenOf {h : Heap} {v : AV} {es k : Nat} {cs : List AV} {ev : AO → AV} {x : AO} (a : Rd h v es k cs) (hx : ev x = v) : PO.run ev (.lenOf false x) = some (.int .i64 k) := by
  rcases a with ⟨h1, h2, h3⟩ | ⟨n, off, cp, h1, h2⟩
  · subst h2; simp [PO.run, hx, h1]
  · simp [PO.run, hx, h1]
theorem Rd.src {h : Heap} {v : AV} {es k : Nat} {cs : List AV} (a : Rd h v es k cs) : srcCells h es v = some (k, cs) := by
  rcases a with ⟨h1, h2, h3⟩ | ⟨n, off, cp, h1, h2⟩
  · subst h1; subst h2; subst h3; rfl
  · subst h1; simp only [srcCells, h2, Option.map_some]
theorem Rd.frm {st st' : St} {v : AV} {es k : Nat} {cs : List AV} {S : List Nat} (a : Rd st.h v es k cs) (f : Frm S st st') (hw : st.Wf) (hn : ∀ n ∈ v.nms, n ∉ S) : Rd st'.h v es k cs := by
  rcases a with ⟨h1, h2, h3⟩ | ⟨n, off, cp, h1, h2⟩
  · exact .inl ⟨h1, h2, h3⟩
  · refine .inr ⟨n, off, cp, h1, ?_⟩
    obtain ⟨o, ho⟩ := rdCells_some h2
    have := f.get hw ho (hn n (by simp [h1, AV.nms]))
    unfold rdCells at h2 ⊢
    rw [ho] at h2
    rw [this]
    exact h2
theorem Rd.ext {st st' : St} {v : AV} {es k : Nat} {cs : List AV} (a : Rd st.h v es k cs) (f : Ext st st') (hw : st.Wf) : Rd st'.h v es k cs := a.frm (f.fr []) hw (by simp)
theorem Rd.lt {v : AV} {es k : Nat} {cs : List AV} (a : Rd st.h v es k cs) (hw : st.Wf) : ∀ n ∈ v.nms, n < st.nx := by
  rcases a with ⟨h1, h2, h3⟩ | ⟨n, off, cp, h1, h2⟩
  · subst h1; intro n h; cases h
  · subst h1
    intro m h
    simp [AV.nms] at h
    subst h
    obtain ⟨o, ho⟩ := rdCells_some h2
    exact hw.lt _ _ ho

theorem SlAt.rd' {h : Heap} {v : AV} {n ty es k : Nat} {cs : List AV} (a : SlAt h v n ty es k cs) : Rd h v es k cs := by
  rcases a with ⟨h1, h2, h3⟩ | ⟨h1, h2, h3⟩ | ⟨ty', h1, h2, h3⟩
  · exact .inl ⟨h1, h3, h2⟩
  · refine .inr ⟨n, 0, _, h1, ?_⟩
    simp only [rdCells, h2]
    rw [if_pos (by omega), List.drop_zero, List.take_of_length_le (by omega)]
  · exact .inr ⟨n, 0, _, h1, rd_all h2 h3⟩
theorem Sl.rd {s : St} {v : AV} {ty es k : Nat} {cs : List AV} (a : Sl s v ty es k cs) : Rd s.h v es k cs := by
  obtain ⟨n, a⟩ := a; exact a.rd'

theorem SlAt.frm' {st st' : St} {v : AV} {n ty es k : Nat} {cs : List AV} {S : List Nat} (a : SlAt st.h v n ty es k cs) (f : Frm S st st') (hw : st.Wf) (hn : ∀ n ∈ v.nms, n ∉ S) : SlAt st'.h v n ty es k cs := by
  rcases a with ⟨h1, h2, h3⟩ | ⟨h1, h2, h3⟩ | ⟨ty', h1, h2, h3⟩
  · exact .nil h1 h2 h3
  · exact .buf h1 (f.get hw h2 (hn n (by simp [h1, AV.nms]))) h3
  · exact .made ty' h1 (f.get hw h2 (hn n (by simp [h1, AV.nms]))) h3
theorem Sl.frm {st st' : St} {v : AV} {ty es k : Nat} {cs : List AV} {S : List Nat} (a : Sl st v ty es k cs) (f : Frm S st st') (hw : st.Wf) (hn : ∀ n ∈ v.nms, n ∉ S) : Sl st' v ty es k cs := by
  obtain ⟨n, a⟩ := a; exact ⟨n, a.frm' f hw hn⟩
theorem Sl.ext {st st' : St} {v : AV} {ty es k : Nat} {cs : List AV} (a : Sl st v ty es k cs) (f : Ext st st') (hw : st.Wf) : Sl st' v ty es k cs := a.frm (f.fr []) hw (by simp)
theorem Sl.dropLoc {v : AV} {ty es k c : Nat} {cs : List AV} (hwf : st.Wf) (a : Sl st v ty es k cs) : Sl ⟨Go.Ev.dropLoc c st.h, st.nx⟩ v ty es k cs := by
  obtain ⟨n, a⟩ := a; exact ⟨n, a.dropLoc hwf⟩

/-- What append makes: of the slice's own block or of a new one. -/
theorem Sl.append {st0 : St} {S : List Nat} (hF : Frm S st0 st) {v x : AV} {ty es k j b : Nat} {cs new : List AV} (hv : Mine S st0 v) (a : Sl st v ty es k cs) (hx : Rd st.h x es j new) (hsc : new.all AV.sc = true)
    (hb : (k + j) * b ≤ 35184372088832) (hb' : k + j ≤ 35184372088832) (hm : 0 < j ∨ ∀ n c, v ≠ .slice n 0 k (.known c)) :
    CRes (aappend ty es b st v x) fun v' s => Sl s v' ty es (k + j) (cs ++ new) ∧ Frm S st0 s ∧ Mine S st0 v' ∧ Frm v.nms st s := by
  obtain ⟨n, a⟩ := a
  cases hv0 : v with
  | slice m o l c =>
    have hmn : n = m := by
      rcases a with ⟨h1, h2, h3⟩ | ⟨h1, h2, h3⟩ | ⟨ty', h1, h2, h3⟩ <;> rw [hv0] at h1 <;> simp at h1 <;> first | exact h1.1.symm | exact h1.symm
    subst hmn
    rw [← hv0]
    refine (a.append hF.wf hx.src hx.len hsc hb hb' ?_).mono ?_
    · rcases hm with h | h
      · exact .inl h
      · exact .inr (fun ⟨c, hc⟩ => h _ _ hc)
    · rintro v' s ⟨n', hs, hf, hn, _⟩
      have hfs : Frm v.nms st s := by rw [hv0]; exact hf
      refine ⟨⟨n', hs⟩, hF.trans hfs hv, ?_, hfs⟩
      intro k hk
      have hk' : k = n' := by
        rcases hs with ⟨h1, h2, h3⟩ | ⟨h1, h2, h3⟩ | ⟨ty', h1, h2, h3⟩ <;> rw [h1] at hk <;> simp [AV.nms] at hk <;> exact hk
      subst hk'
      rcases hn with h | h
      · subst h; exact hv _ (by simp [hv0, AV.nms])
      · exact .inr (Nat.le_trans hF.nx h)
  | nilslice =>
    have hk0 : k = 0 ∧ cs = [] := by
      rcases a with ⟨h1, h2, h3⟩ | ⟨h1, h2, h3⟩ | ⟨ty', h1, h2, h3⟩
      · exact ⟨h3, h2⟩
      · rw [hv0] at h1; cases h1
      · rw [hv0] at h1; cases h1
    obtain ⟨rfl, rfl⟩ := hk0
    unfold aappend
    rw [hx.src]
    simp only [Nat.zero_add] at hb hb' ⊢
    by_cases hj0 : j = 0
    · rw [if_pos hj0]
      refine ⟨?_, hF, Mine.nil _ _, Frm.refl hF.wf _⟩
      have : new = [] := List.length_eq_zero_iff.1 (by rw [hx.len, hj0]; simp)
      subst this; subst hj0
      exact .nil _ _ _
    · rw [if_neg hj0, if_pos ⟨hb, hb'⟩]
      refine ⟨⟨st.nx, .buf rfl (by simp [hget]) (by simpa using hx.len)⟩, hF.trans ((Ext.new hF.wf _).fr []) (by simp), ?_, (Ext.new hF.wf _).fr _⟩
      intro n hn
      simp [AV.nms] at hn
      subst hn
      exact .inr hF.nx
  | _ =>
    rcases a with ⟨h1, h2, h3⟩ | ⟨h1, h2, h3⟩ | ⟨ty', h1, h2, h3⟩ <;> rw [hv0] at h1 <;> cases h1

/-- One value appended, out of a block made for it. -/
theorem Sl.push {st0 : St} {S : List Nat} (hF : Frm S st0 st) {v y : AV} {ty k b : Nat} {cs : List AV} {Q : AV → St → Prop} (hv : Mine S st0 v) (a : Sl st v ty 1 k cs) (hsc : y.sc = true) (hb : (k + 1) * b ≤ 35184372088832) (hb' : k + 1 ≤ 35184372088832)
    (hq : ∀ v' s, Sl s v' ty 1 (k + 1) (cs ++ [y]) → Frm S st0 s → Mine S st0 v' → Frm v.nms st s → Q v' s) :
    CRes (aappend ty 1 b ⟨(st.nx, .cells ty false [y]) :: st.h, st.nx + 1⟩ v (.slice st.nx 0 1 (.known 1))) Q := by
  have hx := Ext.new hF.wf (.cells ty false [y])
  refine (Sl.append (j := 1) (new := [y]) (hF.trans (hx.fr []) (by simp)) hv (a.ext hx hF.wf) (.inr ⟨_, _, _, rfl, ?_⟩) (by simp [hsc]) hb hb' (.inl (by omega))).mono ?_
  · exact rd_all (ty := ty) (l := false) (by simp [hget]) rfl
  · rintro v' s ⟨h1, h2, h3, h4⟩
    exact hq v' s h1 h2 h3 ((hx.fr v.nms).trans h4 (fun n h => .inl h))

def ints (l : List Bool) : List AV := l.map fun b => .int .i64 (b.toNat : Nat)
theorem ints_len (l : List Bool) : (ints l).length = l.length := by simp [ints]
theorem ints_sc (l : List Bool) : (ints l).all AV.sc = true := by simp [ints, AV.sc]
theorem ints_append (a b : List Bool) : ints (a ++ b) = ints a ++ ints b := by simp [ints]
theorem ints_get {l : List Bool} {i : Nat} (h : i < l.length) : (ints l)[i]? = some (.int .i64 ((l.getD i false).toNat : Nat)) := by
  simp [ints, List.getD_eq_getElem?_getD, List.getElem?_eq_getElem h]

theorem abounds_hi {len top : Nat} {k : IntKind} {j : Int} (h0 : 0 ≤ j) (h1 : j ≤ top) : abounds len top none (some (.int k j)) none = some (0, j.toNat, none) := by
  simp only [abounds, bnd, abound]
  rw [if_pos ⟨h0, h1⟩]
theorem asubL_hi_full {es n len : Nat} {k : IntKind} {j : Int} (h0 : 0 ≤ j) (h1 : j ≤ len) : asubL es n 0 len .full none (some (.int k j)) none = some (.slice n 0 j.toNat .full) := by
  have : abounds len (topOf len .full) none (some (.int k j)) none = some (0, j.toNat, none) := abounds_hi h0 h1
  simp only [asubL, this]
  rfl
theorem asubL_hi_known {es n len : Nat} {k : IntKind} {j : Int} (h0 : 0 ≤ j) (h1 : j ≤ len) (h2 : 0 < len) : asubL es n 0 len (.known len) none (some (.int k j)) none = some (.slice n 0 j.toNat (.known len)) := by
  have : abounds len (topOf len (.known len)) none (some (.int k j)) none = some (0, j.toNat, none) := abounds_hi h0 h1
  simp only [asubL, this, subCap, Nat.sub_zero]
  cases len with
  | zero => omega
  | succ z => simp

/-- Blocks that do not go with a call. -/
def NL (s : St) (v : AV) : Prop := ∀ n ∈ v.nms, ∃ o, hget s.h n = some o ∧ o.lc = false
theorem NL.frm {st st' : St} {v : AV} {S : List Nat} (a : NL st v) (f : Frm S st st') (hw : st.Wf) (hn : ∀ n ∈ v.nms, n ∉ S) : NL st' v := fun n h => by
  obtain ⟨o, h1, h2⟩ := a n h
  exact ⟨o, f.get hw h1 (hn n h), h2⟩
theorem NL.ext {st st' : St} {v : AV} (a : NL st v) (f : Ext st st') (hw : st.Wf) : NL st' v := a.frm (f.fr []) hw (by simp)
theorem NL.dropLoc {v : AV} {c : Nat} (hwf : st.Wf) (a : NL st v) : NL ⟨Go.Ev.dropLoc c st.h, st.nx⟩ v := fun n h => by
  obtain ⟨o, h1, h2⟩ := a n h
  exact ⟨o, hget_dropLoc_keep hwf h1 h2, h2⟩
theorem Rd.dropLoc {v : AV} {es k c : Nat} {cs : List AV} (hwf : st.Wf) (a : Rd st.h v es k cs) (b : NL st v) : Rd (Go.Ev.dropLoc c st.h) v es k cs := by
  rcases a with ⟨h1, h2, h3⟩ | ⟨n, off, cp, h1, h2⟩
  · exact .inl ⟨h1, h2, h3⟩
  · refine .inr ⟨n, off, cp, h1, ?_⟩
    obtain ⟨o, h3, h4⟩ := b n (by simp [h1, AV.nms])
    have := hget_dropLoc_keep (c := c) hwf h3 h4
    unfold rdCells at h2 ⊢
    rw [h3] at h2
    rw [this]
    exact h2
theorem Sl.nl {s : St} {v : AV} {ty es k : Nat} {cs : List AV} (a : Sl s v ty es k cs) : NL s v := by
  obtain ⟨n, a⟩ := a
  intro m hm
  rcases a with ⟨h1, h2, h3⟩ | ⟨h1, h2, h3⟩ | ⟨ty', h1, h2, h3⟩ <;> rw [h1] at hm <;> simp [AV.nms] at hm <;> subst hm
  · exact ⟨_, h2, rfl⟩
  · exact ⟨_, h2, rfl⟩

end Go.Ev

/- From the evaluator's word on a law to the model's. -/
namespace Go.Ev
open Go Go.RowKit
set_option linter.unusedSimpArgs false
set_option linter.unusedVariables false

variable {X : Cx} {T : Tab}

/-- What a law's call comes to: it returns true, and no older block is changed. -/
theorem law_calls (hT : TabOK chkD X T) (hmix : X.P.follows .mixedOrders = true) {k : Nat} {mf : MFun} (hen : T.en k = none) (hf : T.fn k = some mf) {args : List AV} {st : St} {N : Nu} {w : World} {us : List Value} (hl : args.length = mf.nargs)
    (h : CRes (call T (.fn k [] []) args st) fun v _ => v = .bool true) (hr : SR chkD X N st w) (ha : VRs X N args us) (hown : ∀ b, ¬ Own N st.h b) :
    Calls X.P (X.φ k) us.toArray w fun e w' => e = .returned (.bool true) ∧ Below w.heap.size w w' := by
  obtain ⟨v, s, h1, rfl⟩ := h.elim
  rw [call_fn hen hf (by simpa using hl)] at h1
  simp only [List.nil_append, List.append_nil] at h1
  cases hr2 : run T mf.body (argEnv 0 args) st with
  | none => rw [hr2] at h1; cases h1
  | some p =>
    obtain ⟨x, e, s2⟩ := p
    rw [hr2] at h1
    obtain ⟨n, hn⟩ := run_iff.1 hr2
    have key : (x = .norm ∨ x = .ret) ∧ fresults s2.h e mf.results = some (.bool true) := by
      cases x with
      | norm =>
        refine ⟨.inl rfl, ?_⟩
        simp only [callR] at h1
        cases hv : fresults s2.h e mf.results with
        | none => rw [hv] at h1; cases h1
        | some u => rw [hv] at h1; simp only [Option.map_some, Option.some.injEq, Prod.mk.injEq] at h1; rw [h1.1]
      | ret =>
        refine ⟨.inr rfl, ?_⟩
        simp only [callR] at h1
        cases hv : fresults s2.h e mf.results with
        | none => rw [hv] at h1; cases h1
        | some u => rw [hv] at h1; simp only [Option.map_some, Option.some.injEq, Prod.mk.injEq] at h1; rw [h1.1]
      | _ => cases h1
    exact exec_calls (exec_ok hT (drawOK hmix) n) hT hen hf hn key.1 key.2 hr ha hown

/-- No block is named yet. -/
def Nu.none : Nu := ⟨fun _ => Option.none, fun _ => 0⟩
theorem sr_none (n : Nat) (w : World) : SR chkD X Nu.none ⟨[], n⟩ w := ⟨⟨(fun n o h => by cases h), (fun n m o p a c h => by cases h)⟩, fun _ _ => rfl⟩
theorem own_none (b : Nat) : ¬ Own Nu.none [] b := fun ⟨n, o, a, h, _⟩ => by cases h

end Go.Ev
