/- The evaluator without fuel: what it comes to, and its equations. -/
import Derived.Test.YtodphnhkhnebcaaDoorP03
import Derived.KernelRfl
import Derived.Lib.Repeat
import Derived.Lib.Bytealg
import Derived.Laws.Externs
import Derived.Lib.LaidTab
import Derived.Lib.ItoaNum
import Derived.Lib.Case
namespace Go.Ev
open Go
set_option linter.unusedSimpArgs false
set_option linter.unusedVariables false

def ELe (f g : ExF) : Prop := ∀ c e st r, f c e st = some r → g c e st = some r
def CLe (f g : CallF) : Prop := ∀ a args st r, f a args st = some r → g a args st = some r

theorem WO.mono {f g : CallF} (h : CLe f g) {ev : AO → AV} {st : St} {o : WO} {r : AV × St} (hr : WO.run f ev st o = some r) : WO.run g ev st o = some r := by
  cases o with
  | call x xs => exact h _ _ _ _ hr
  | _ => exact hr

theorem MO.mono {f g : CallF} (h : CLe f g) {ev : AO → AV} {st : St} {o : MO} {r : AV × St} (hr : MO.run f ev st o = some r) : MO.run g ev st o = some r := by
  cases o with
  | w p => exact WO.mono h hr
  | _ => exact hr

theorem MI.mono {f g : CallF} (h : CLe f g) {o : MI} {e : Env} {st : St} {r : Env × St} (hr : o.run f e st = some r) : o.run g e st = some r := by
  unfold MI.run at hr ⊢
  split at hr <;> rename_i hw
  · split at hr <;> rename_i h1
    · rw [MO.mono h h1]; exact hr
    · cases hr
  · exact hr
  · cases hr

theorem runOps_mono {f g : CallF} (h : CLe f g) : ∀ {l : List MI} {e : Env} {st : St} {r : Env × St}, runOps f l e st = some r → runOps g l e st = some r
  | [], _, _, _, hr => hr
  | o :: l, e, st, r, hr => by
    simp only [runOps] at hr ⊢
    split at hr <;> rename_i h1
    · rw [MI.mono h h1]; exact runOps_mono h hr
    · cases hr

theorem runI_mono {f g : CallF} (h : CLe f g) {nm : Nat} {o : MI} {e : Env} {st : St} {r : Env × St × Nat} (hr : runI f nm o e st = some r) : runI g nm o e st = some r := by
  unfold runI at hr ⊢
  split at hr <;> rename_i hw
  · split at hr
    · exact hr
    · split at hr <;> rename_i h1
      · rw [MO.mono h h1]; exact hr
      · cases hr
  · exact hr
  · cases hr

theorem runR_mono {f g : CallF} (h : CLe f g) : ∀ {l : List RI} {d : List (Nat × MI)} {nm : Nat} {e : Env} {st : St} {r : Env × St}, runR f d nm l e st = some r → runR g d nm l e st = some r
  | [], _, _, _, _, _, hr => hr
  | .op i o :: l, d, nm, e, st, r, hr => by
    simp only [runR] at hr ⊢
    split at hr <;> rename_i h1
    · rw [runI_mono h h1]; exact runR_mono h hr
    · cases hr
  | .re i :: l, d, nm, e, st, r, hr => by
    simp only [runR] at hr ⊢
    split at hr
    · rename_i h1; rw [if_pos h1]; exact runR_mono h hr
    · cases hr

theorem evCallF_mono {T : Tab} {f g : ExF} (h : ELe f g) {k : Nat} {args : List AV} {st : St} {r : AV × St} (hr : evCallF T f k args st = some r) : evCallF T g k args st = some r := by
  unfold evCallF at hr ⊢
  split at hr
  · exact hr
  · split at hr
    · cases hr
    · split at hr
      · rename_i hl
        rw [if_pos hl]
        split at hr <;> rename_i h1
        · rw [h _ _ _ _ h1]; exact hr
        · rw [h _ _ _ _ h1]; exact hr
        · cases hr
      · cases hr

theorem evYield_mono {f g : ExF} (h : ELe f g) {l : Nat} {args : List AV} {st : St} {r : AV × St} (hr : evYield f l args st = some r) : evYield g l args st = some r := by
  unfold evYield at hr ⊢
  split at hr
  · split at hr
    · rename_i hl
      rw [if_pos hl]
      split at hr <;> rename_i h1
      · rw [h _ _ _ _ h1]
        simp only
        split at hr <;> rename_i h2
        · split at hr <;> rename_i h3
          · rw [h _ _ _ _ h3]; exact hr
          · cases hr
        · cases hr
      · cases hr
    · cases hr
  · cases hr

theorem evCall_mono {T : Tab} {f g : ExF} (h : ELe f g) : CLe (evCall T f) (evCall T g) := by
  intro a args st r hr
  unfold evCall at hr ⊢
  split at hr
  · exact evCallF_mono h hr
  · exact evYield_mono h hr
  · cases hr

theorem rounds_mono {f g : CallF} (hf : CLe f g) {ex ey : ExF} (hx : ELe ex ey) {nx more pair : Nat} {post : List MI} {ks : List Nat} {body : MCode} {e : Env} {st : St} :
    ∀ {es : List (AV × AV)} {u : Unit}, rounds f ex nx more pair post ks body e st es = some u → rounds g ey nx more pair post ks body e st es = some u
  | [], _, h => h
  | (k, v) :: r, u, h => by
    simp only [rounds] at h ⊢
    split at h
    case h_2 => cases h
    rename_i h1
    rw [runOps_mono hf h1]
    simp only
    split at h
    case h_2 => cases h
    rename_i h2
    rw [hx _ _ _ _ h2]
    simp only
    split at h
    case isFalse => cases h
    rename_i h3
    rw [if_pos h3]
    exact rounds_mono hf hx h

theorem evStep_mono {T : Tab} {f g : ExF} (h : ELe f g) : ELe (evStep T f) (evStep T g) := by
  have hc := evCall_mono (T := T) h
  intro c e st r hr
  cases c with
  | skip => exact hr
  | reg l =>
    simp only [evStep] at hr ⊢
    split at hr <;> rename_i h1
    · rw [runOps_mono hc h1]; exact hr
    · cases hr
  | regd l =>
    simp only [evStep] at hr ⊢
    split at hr <;> rename_i h1
    · rw [runR_mono hc h1]; exact hr
    · cases hr
  | seq a b =>
    by_cases hk : ∃ l, a = .keep l
    · obtain ⟨l, rfl⟩ := hk
      simp only [evStep] at hr ⊢
      exact h _ _ _ _ hr
    · have e1 : ∀ ex : ExF, evStep T ex (.seq a b) e st = (match ex a e st with | some (.norm, e, st) => ex b e st | r => r) := by
        intro ex
        cases a <;> first | rfl | exact absurd ⟨_, rfl⟩ hk
      rw [e1] at hr ⊢
      split at hr <;> rename_i h1
      · rw [h _ _ _ _ h1]; exact h _ _ _ _ hr
      · rw [h _ _ _ _ hr]
        split
        · rename_i e2 st2 heq
          exact absurd hr (by rw [heq]; exact h1 e2 st2)
        · rfl
  | cond x a b =>
    simp only [evStep] at hr ⊢
    split at hr
    · exact h _ _ _ _ hr
    · exact h _ _ _ _ hr
    · cases hr
  | block i b =>
    simp only [evStep] at hr ⊢
    split at hr <;> rename_i h1
    · rw [h _ _ _ _ h1]; exact hr
    · rw [h _ _ _ _ hr]
      split
      · rename_i i2 e2 st2 heq
        exact absurd hr (by rw [heq]; exact h1 i2 e2 st2)
      · rfl
  | loop b =>
    simp only [evStep] at hr ⊢
    split at hr <;> rename_i h1
    · rw [h _ _ _ _ h1]; exact h _ _ _ _ hr
    · rw [h _ _ _ _ hr]
      split
      · rename_i e2 st2 heq
        exact absurd hr (by rw [heq]; exact h1 e2 st2)
      · rfl
  | scope b => simp only [evStep] at hr ⊢; exact h _ _ _ _ hr
  | rangeFunc f ps a b =>
    simp only [evStep] at hr ⊢
    split at hr <;> rename_i h1
    · rw [hc _ _ _ _ h1]; exact hr
    · cases hr
  | exit i => exact hr
  | ret => exact hr
  | keep l => exact hr
  | rangeMap pre m d nx more pair post ks out next body =>
    simp only [evStep] at hr ⊢
    split at hr
    case h_2 => cases hr
    rename_i h1
    simp only [runOps_mono hc h1]
    split at hr
    case h_2 => cases hr
    rename_i h2
    split at hr
    case h_2 => cases hr
    rename_i h3
    split at hr
    case h_2 => cases hr
    rename_i h4
    rw [rounds_mono hc h h4]
    exact hr
  | stuck => exact hr

theorem exec_mono_succ (T : Tab) : ∀ n, ELe (exec T n) (exec T (n + 1))
  | 0 => fun _ _ _ _ h => by cases h
  | n + 1 => evStep_mono (exec_mono_succ T n)

theorem exec_mono (T : Tab) {n m : Nat} (h : n ≤ m) : ELe (exec T n) (exec T m) := by
  induction h with
  | refl => exact fun _ _ _ _ h => h
  | step _ ih => exact fun c e st r hr => exec_mono_succ T _ c e st r (ih c e st r hr)

open Classical in
/-- What the code comes to. -/
noncomputable def run (T : Tab) (c : MCode) (e : Env) (st : St) : Option (Ex × Env × St) :=
  if h : ∃ n r, exec T n c e st = some r then exec T h.choose c e st else none

theorem run_iff {T : Tab} {c : MCode} {e : Env} {st : St} {r : Ex × Env × St} : run T c e st = some r ↔ ∃ n, exec T n c e st = some r := by
  unfold run
  constructor
  · intro h
    split at h
    · exact ⟨_, h⟩
    · cases h
  · rintro ⟨n, hn⟩
    have h : ∃ n r, exec T n c e st = some r := ⟨n, r, hn⟩
    rw [dif_pos h]
    obtain ⟨r', hr'⟩ := h.choose_spec
    have h1 := exec_mono T (Nat.le_max_left n h.choose) _ _ _ _ hn
    have h2 := exec_mono T (Nat.le_max_right n h.choose) _ _ _ _ hr'
    rw [h1] at h2
    rw [hr', h2]

theorem exec_le_run (T : Tab) (n : Nat) : ELe (exec T n) (run T) := fun _ _ _ _ h => run_iff.2 ⟨n, h⟩

/-- A call, without fuel. -/
noncomputable def call (T : Tab) : CallF := evCall T (run T)

theorem call_cont {T : Tab} {a : AV} {args : List AV} {st : St} {r : AV × St} (h : call T a args st = some r) : ∃ n, evCall T (exec T n) a args st = some r := by
  unfold call evCall at h
  split at h
  · rename_i f first cap
    simp only [evCall]
    unfold evCallF at h ⊢
    split at h
    · exact ⟨0, h⟩
    · split at h
      · cases h
      · split at h
        · rename_i hl
          split at h <;> rename_i h1
          · obtain ⟨n, hn⟩ := run_iff.1 h1
            exact ⟨n, by rw [if_pos hl, hn]; exact h⟩
          · obtain ⟨n, hn⟩ := run_iff.1 h1
            exact ⟨n, by rw [if_pos hl, hn]; exact h⟩
          · cases h
        · cases h
  · rename_i l
    simp only [evCall]
    unfold evYield at h ⊢
    split at h
    · split at h
      · rename_i hl
        split at h <;> rename_i h1
        · split at h <;> rename_i h2
          · split at h <;> rename_i h3
            · obtain ⟨n, hn⟩ := run_iff.1 h1
              obtain ⟨m, hm⟩ := run_iff.1 h3
              refine ⟨max n m, ?_⟩
              rw [if_pos hl, exec_mono T (Nat.le_max_left n m) _ _ _ _ hn]
              simp only
              rw [h2]
              simp only
              rw [exec_mono T (Nat.le_max_right n m) _ _ _ _ hm]
              exact h
            · cases h
          · cases h
        · cases h
      · cases h
    · cases h
  · cases h

theorem MO_cont {T : Tab} {ev : AO → AV} {st : St} {o : MO} {r : AV × St} (h : MO.run (call T) ev st o = some r) : ∃ n, MO.run (evCall T (exec T n)) ev st o = some r := by
  cases o with
  | w p =>
    cases p with
    | call f xs => exact call_cont h
    | _ => exact ⟨0, h⟩
  | _ => exact ⟨0, h⟩

theorem MI_cont {T : Tab} {o : MI} {e : Env} {st : St} {r : Env × St} (h : o.run (call T) e st = some r) : ∃ n, o.run (evCall T (exec T n)) e st = some r := by
  unfold MI.run at h ⊢
  split at h
  · split at h <;> rename_i h1
    · obtain ⟨n, hn⟩ := MO_cont h1
      exact ⟨n, by rw [hn]; exact h⟩
    · cases h
  · exact ⟨0, h⟩
  · cases h

theorem callx_le (T : Tab) {n m : Nat} (h : n ≤ m) : CLe (evCall T (exec T n)) (evCall T (exec T m)) := evCall_mono (exec_mono T h)

theorem runOps_cont {T : Tab} : ∀ {l : List MI} {e : Env} {st : St} {r : Env × St}, runOps (call T) l e st = some r → ∃ n, runOps (evCall T (exec T n)) l e st = some r
  | [], _, _, _, h => ⟨0, h⟩
  | o :: l, e, st, r, h => by
    simp only [runOps] at h ⊢
    split at h <;> rename_i h1
    · obtain ⟨n, hn⟩ := MI_cont h1
      obtain ⟨m, hm⟩ := runOps_cont h
      exact ⟨max n m, by rw [MI.mono (callx_le T (Nat.le_max_left n m)) hn]; exact runOps_mono (callx_le T (Nat.le_max_right n m)) hm⟩
    · cases h

theorem runI_cont {T : Tab} {nm : Nat} {o : MI} {e : Env} {st : St} {r : Env × St × Nat} (h : runI (call T) nm o e st = some r) : ∃ n, runI (evCall T (exec T n)) nm o e st = some r := by
  unfold runI at h ⊢
  split at h
  · split at h
    · exact ⟨0, h⟩
    · split at h <;> rename_i h1
      · obtain ⟨n, hn⟩ := MO_cont h1
        exact ⟨n, by rw [hn]; exact h⟩
      · cases h
  · exact ⟨0, h⟩
  · cases h

theorem runR_cont {T : Tab} : ∀ {l : List RI} {d : List (Nat × MI)} {nm : Nat} {e : Env} {st : St} {r : Env × St}, runR (call T) d nm l e st = some r → ∃ n, runR (evCall T (exec T n)) d nm l e st = some r
  | [], _, _, _, _, _, h => ⟨0, h⟩
  | .op i o :: l, d, nm, e, st, r, h => by
    simp only [runR] at h ⊢
    split at h <;> rename_i h1
    · obtain ⟨n, hn⟩ := runI_cont h1
      obtain ⟨m, hm⟩ := runR_cont h
      exact ⟨max n m, by rw [runI_mono (callx_le T (Nat.le_max_left n m)) hn]; exact runR_mono (callx_le T (Nat.le_max_right n m)) hm⟩
    · cases h
  | .re i :: l, d, nm, e, st, r, h => by
    simp only [runR] at h ⊢
    split at h
    · rename_i h1
      obtain ⟨m, hm⟩ := runR_cont h
      exact ⟨m, by rw [if_pos h1]; exact hm⟩
    · cases h

theorem rounds_cont {T : Tab} {nx more pair : Nat} {post : List MI} {ks : List Nat} {body : MCode} {e : Env} {st : St} :
    ∀ {es : List (AV × AV)} {u : Unit}, rounds (call T) (run T) nx more pair post ks body e st es = some u → ∃ n, rounds (evCall T (exec T n)) (exec T n) nx more pair post ks body e st es = some u
  | [], _, h => ⟨0, h⟩
  | (k, v) :: r, u, h => by
    simp only [rounds] at h
    split at h
    case h_2 => cases h
    rename_i h1
    split at h
    case h_2 => cases h
    rename_i h2
    split at h
    case isFalse => cases h
    rename_i h3
    obtain ⟨a, ha⟩ := runOps_cont h1
    obtain ⟨b, hb⟩ := run_iff.1 h2
    obtain ⟨c, hc⟩ := rounds_cont h
    refine ⟨max a (max b c), ?_⟩
    simp only [rounds]
    rw [runOps_mono (callx_le T (Nat.le_max_left a _)) ha]
    simp only
    rw [exec_mono T (Nat.le_trans (Nat.le_max_left b c) (Nat.le_max_right a _)) _ _ _ _ hb]
    simp only
    rw [if_pos h3]
    have hbc := Nat.le_trans (Nat.le_max_right b c) (Nat.le_max_right a _)
    exact rounds_mono (callx_le T hbc) (exec_mono T hbc) hc

/-- The evaluator's one equation. -/
theorem run_eq (T : Tab) (c : MCode) (e : Env) (st : St) : run T c e st = evStep T (run T) c e st := by
  have fwd : ∀ r, run T c e st = some r → evStep T (run T) c e st = some r := by
    intro r h
    obtain ⟨n, hn⟩ := run_iff.1 h
    cases n with
    | zero => cases hn
    | succ n => exact evStep_mono (exec_le_run T n) _ _ _ _ hn
  have bwd : ∀ r, evStep T (run T) c e st = some r → run T c e st = some r := by
    intro r h
    suffices hs : ∃ n, evStep T (exec T n) c e st = some r by
      obtain ⟨n, hn⟩ := hs
      exact run_iff.2 ⟨n + 1, hn⟩
    have one : ∀ {c' e' st' r'}, run T c' e' st' = some r' → ∃ n, ∀ m, n ≤ m → exec T m c' e' st' = some r' := by
      intro c' e' st' r' h'
      obtain ⟨n, hn⟩ := run_iff.1 h'
      exact ⟨n, fun m hm => exec_mono T hm _ _ _ _ hn⟩
    cases c with
    | skip => exact ⟨0, h⟩
    | reg l =>
      simp only [evStep] at h ⊢
      split at h <;> rename_i h1
      · obtain ⟨n, hn⟩ := runOps_cont h1
        exact ⟨n, by rw [hn]; exact h⟩
      · cases h
    | regd l =>
      simp only [evStep] at h ⊢
      split at h <;> rename_i h1
      · obtain ⟨n, hn⟩ := runR_cont h1
        exact ⟨n, by rw [hn]; exact h⟩
      · cases h
    | seq a b =>
      by_cases hk : ∃ l, a = .keep l
      · obtain ⟨l, rfl⟩ := hk
        simp only [evStep] at h ⊢
        exact run_iff.1 h
      · have e1 : ∀ ex : ExF, evStep T ex (.seq a b) e st = (match ex a e st with | some (.norm, e, st) => ex b e st | r => r) := by
          intro ex
          cases a <;> first | rfl | exact absurd ⟨_, rfl⟩ hk
        simp only [e1] at h ⊢
        split at h <;> rename_i h1
        · obtain ⟨n, hn⟩ := one h1
          obtain ⟨m, hm⟩ := one h
          refine ⟨max n m, ?_⟩
          rw [hn _ (Nat.le_max_left n m)]
          exact hm _ (Nat.le_max_right n m)
        · obtain ⟨n, hn⟩ := one h
          refine ⟨n, ?_⟩
          rw [hn n (Nat.le_refl _)]
          split
          · rename_i e2 st2 heq
            exact absurd h (by rw [heq]; exact h1 e2 st2)
          · rfl
    | cond x a b =>
      simp only [evStep] at h ⊢
      split at h
      · exact run_iff.1 h
      · exact run_iff.1 h
      · cases h
    | block i b =>
      simp only [evStep] at h ⊢
      split at h <;> rename_i h1
      · obtain ⟨n, hn⟩ := run_iff.1 h1
        exact ⟨n, by rw [hn]; exact h⟩
      · obtain ⟨n, hn⟩ := run_iff.1 h
        refine ⟨n, ?_⟩
        rw [hn]
        split
        · rename_i i2 e2 st2 heq
          exact absurd h (by rw [heq]; exact h1 i2 e2 st2)
        · rfl
    | loop b =>
      simp only [evStep] at h ⊢
      split at h <;> rename_i h1
      · obtain ⟨n, hn⟩ := one h1
        obtain ⟨m, hm⟩ := one h
        refine ⟨max n m, ?_⟩
        rw [hn _ (Nat.le_max_left n m)]
        exact hm _ (Nat.le_max_right n m)
      · obtain ⟨n, hn⟩ := one h
        refine ⟨n, ?_⟩
        rw [hn n (Nat.le_refl _)]
        split
        · rename_i e2 st2 heq
          exact absurd h (by rw [heq]; exact h1 e2 st2)
        · rfl
    | scope b => simp only [evStep] at h ⊢; exact run_iff.1 h
    | rangeFunc f ps a b =>
      simp only [evStep] at h ⊢
      split at h <;> rename_i h1
      · obtain ⟨n, hn⟩ := call_cont h1
        exact ⟨n, by rw [hn]; exact h⟩
      · cases h
    | exit i => exact ⟨0, h⟩
    | ret => exact ⟨0, h⟩
    | keep l => exact ⟨0, h⟩
    | rangeMap pre m d nx more pair post ks out next body =>
      simp only [evStep] at h
      split at h
      case h_2 => cases h
      rename_i h1
      split at h
      case h_2 => cases h
      rename_i h2
      split at h
      case h_2 => cases h
      rename_i h3
      split at h
      case h_2 => cases h
      rename_i h4
      obtain ⟨a, ha⟩ := runOps_cont h1
      obtain ⟨b, hb⟩ := rounds_cont h4
      refine ⟨max a b, ?_⟩
      simp only [evStep]
      rw [runOps_mono (callx_le T (Nat.le_max_left a b)) ha]
      simp only [h2, h3]
      rw [rounds_mono (callx_le T (Nat.le_max_right a b)) (exec_mono T (Nat.le_max_right a b)) hb]
      exact h
    | stuck => exact ⟨0, h⟩
  cases hr : run T c e st with
  | some r => exact (fwd r hr).symm
  | none =>
    cases he : evStep T (run T) c e st with
    | none => rfl
    | some r => rw [bwd r he] at hr; cases hr

end Go.Ev

/- The evaluator's equations, for rewriting: code by code, operation by operation. -/
namespace Go.Ev
open Go
set_option linter.unusedSimpArgs false
set_option linter.unusedVariables false

variable {T : Tab} {e : Env} {st : St}

/-- What follows a first part. -/
noncomputable def seqR (T : Tab) (b : MCode) : Option (Ex × Env × St) → Option (Ex × Env × St)
  | some (.norm, e, st) => run T b e st
  | r => r

@[go_sem] theorem seqR_norm (b : MCode) : seqR T b (some (.norm, e, st)) = run T b e st := rfl
@[go_sem] theorem seqR_exit (b : MCode) (i : Nat) : seqR T b (some (.exit i, e, st)) = some (.exit i, e, st) := rfl
@[go_sem] theorem seqR_ret (b : MCode) : seqR T b (some (.ret, e, st)) = some (.ret, e, st) := rfl
@[go_sem] theorem seqR_none (b : MCode) : seqR T b none = none := rfl

def opsR (call : CallF) (l : List MI) : Option (Env × St) → Option (Env × St)
  | some (e, st) => runOps call l e st
  | none => none
@[go_sem] theorem opsR_some (call : CallF) (l : List MI) : opsR call l (some (e, st)) = runOps call l e st := rfl
@[go_sem] theorem opsR_none (call : CallF) (l : List MI) : opsR call l none = none := rfl

def opsE : Option (Env × St) → Option (Ex × Env × St)
  | some (e, st) => some (.norm, e, st)
  | none => none
@[go_sem] theorem opsE_some : opsE (some (e, st)) = some (.norm, e, st) := rfl
@[go_sem] theorem opsE_none : opsE none = none := rfl

def blockE (i : Nat) : Option (Ex × Env × St) → Option (Ex × Env × St)
  | some (.exit j, e, st) => if j = i then some (.norm, e, st) else some (.exit j, e, st)
  | r => r
@[go_sem] theorem blockE_norm (i : Nat) : blockE i (some (.norm, e, st)) = some (.norm, e, st) := rfl
@[go_sem] theorem blockE_ret (i : Nat) : blockE i (some (.ret, e, st)) = some (.ret, e, st) := rfl
@[go_sem] theorem blockE_exit (i j : Nat) : blockE i (some (.exit j, e, st)) = if j = i then some (.norm, e, st) else some (.exit j, e, st) := rfl
@[go_sem] theorem blockE_none (i : Nat) : blockE i none = none := rfl

@[go_sem] theorem run_skip : run T .skip e st = some (.norm, e, st) := run_eq ..
@[go_sem] theorem run_exit (i : Nat) : run T (.exit i) e st = some (.exit i, e, st) := run_eq ..
@[go_sem] theorem run_ret : run T .ret e st = some (.ret, e, st) := run_eq ..
@[go_sem] theorem run_keep (l : List Nat) (m : MCode) : run T (.seq (.keep l) m) e st = run T m (keepE l e) st := run_eq ..
@[go_sem] theorem run_scope (b : MCode) : run T (.scope b) e st = run T b e st := run_eq ..
@[go_sem] theorem run_block (i : Nat) (b : MCode) : run T (.block i b) e st = blockE i (run T b e st) := by
  rw [run_eq]
  simp only [evStep]
  unfold blockE
  split
  · rename_i h
    rw [h]
  · rename_i h
    split
    · rename_i h2
      exact absurd h2 (h _ _ _)
    · rfl
@[go_sem] theorem run_reg (l : List MI) : run T (.reg l) e st = opsE (runOps (call T) l e st) := by
  rw [run_eq]
  simp only [evStep, call]
  cases runOps (evCall T (run T)) l e st <;> rfl
@[go_sem] theorem run_regd (l : List RI) : run T (.regd l) e st = opsE (runR (call T) [] st.nx l e ⟨st.h, st.nx + l.length⟩) := by
  rw [run_eq]
  simp only [evStep, call]
  cases runR (evCall T (run T)) [] st.nx l e ⟨st.h, st.nx + l.length⟩ <;> rfl
theorem run_seq' {a b : MCode} (h : ∀ l, a ≠ .keep l) : run T (.seq a b) e st = seqR T b (run T a e st) := by
  rw [run_eq]
  have e1 : evStep T (run T) (.seq a b) e st = (match run T a e st with | some (.norm, e, st) => run T b e st | r => r) := by
    cases a <;> first | rfl | exact absurd rfl (h _)
  rw [e1]
  unfold seqR
  split <;> rfl
section
variable (b c d : MCode)
@[go_sem] theorem run_seq_skip : run T (.seq .skip b) e st = seqR T b (run T .skip e st) := run_seq' (by simp)
@[go_sem] theorem run_seq_reg (l : List MI) : run T (.seq (.reg l) b) e st = seqR T b (run T (.reg l) e st) := run_seq' (by simp)
@[go_sem] theorem run_seq_regd (l : List RI) : run T (.seq (.regd l) b) e st = seqR T b (run T (.regd l) e st) := run_seq' (by simp)
@[go_sem] theorem run_seq_seq : run T (.seq (.seq c d) b) e st = seqR T b (run T (.seq c d) e st) := run_seq' (by simp)
@[go_sem] theorem run_seq_cond (x : AO) : run T (.seq (.cond x c d) b) e st = seqR T b (run T (.cond x c d) e st) := run_seq' (by simp)
@[go_sem] theorem run_seq_block (i : Nat) : run T (.seq (.block i c) b) e st = seqR T b (run T (.block i c) e st) := run_seq' (by simp)
@[go_sem] theorem run_seq_loop : run T (.seq (.loop c) b) e st = seqR T b (run T (.loop c) e st) := run_seq' (by simp)
@[go_sem] theorem run_seq_scope : run T (.seq (.scope c) b) e st = seqR T b (run T (.scope c) e st) := run_seq' (by simp)
@[go_sem] theorem run_seq_exit (i : Nat) : run T (.seq (.exit i) b) e st = some (.exit i, e, st) := by rw [run_seq' (by simp), run_exit]; rfl
@[go_sem] theorem run_seq_ret : run T (.seq .ret b) e st = some (.ret, e, st) := by rw [run_seq' (by simp), run_ret]; rfl
@[go_sem] theorem run_seq_rm (pre : List MI) (m : AO) (d nx more pair : Nat) (post : List MI) (ks : List Nat) (out next : Nat) : run T (.seq (.rangeMap pre m d nx more pair post ks out next c) b) e st = seqR T b (run T (.rangeMap pre m d nx more pair post ks out next c) e st) := run_seq' (by simp)
@[go_sem] theorem run_seq_rf (f : AO) (ps : List Nat) : run T (.seq (.rangeFunc f ps c d) b) e st = seqR T b (run T (.rangeFunc f ps c d) e st) := run_seq' (by simp)
end

/-- A loop's next round. -/
theorem run_loop (b : MCode) : run T (.loop b) e st = seqR T (.loop b) (run T b e st) := by
  rw [run_eq]
  simp only [evStep]
  unfold seqR
  split
  · rename_i h1
    rw [h1]
  · rename_i h1
    split
    · rename_i h2
      exact absurd h2 (h1 _ _)
    · rfl

theorem run_cond_bool {x : AO} {a b : MCode} {v : Bool} (h : x.ev e = .bool v) : run T (.cond x a b) e st = if v = true then run T a e st else run T b e st := by
  rw [run_eq]
  simp only [evStep, h]
  cases v <;> rfl

/-- A two-way branch on a value. -/
noncomputable def brR (T : Tab) (a b : MCode) (e : Env) (st : St) : AV → Option (Ex × Env × St)
  | .bool v => if v = true then run T a e st else run T b e st
  | _ => none
@[go_sem] theorem brR_bool (a b : MCode) (v : Bool) : brR T a b e st (.bool v) = if v = true then run T a e st else run T b e st := rfl
@[go_sem] theorem run_cond (x : AO) (a b : MCode) : run T (.cond x a b) e st = brR T a b e st (x.ev e) := by
  rw [run_eq]
  simp only [evStep]
  cases x.ev e with
  | bool v => cases v <;> rfl
  | _ => rfl

@[go_sem] theorem runOps_nil' (call : CallF) : runOps call [] e st = some (e, st) := rfl
@[go_sem] theorem runOps_cons' (call : CallF) (i : MI) (l : List MI) : runOps call (i :: l) e st = opsR call l (i.run call e st) := by
  simp only [runOps]
  cases i.run call e st <;> rfl

def miR (d : Option Nat) (e : Env) : Option (AV × St) → Option (Env × St)
  | some (v, st) => some (eput e d v, st)
  | none => none
@[go_sem] theorem miR_some (d : Option Nat) (v : AV) : miR d e (some (v, st)) = some (eput e d v, st) := rfl
@[go_sem] theorem miR_none (d : Option Nat) : miR d e none = none := rfl

@[go_sem] theorem MI_run_free (call : CallF) (d : Option Nat) (o : MO) : MI.run call ⟨d, none, o⟩ e st = miR d e (o.run call (AO.ev e) st) := by
  simp only [MI.run, wanted]
  cases o.run call (AO.ev e) st <;> rfl

def guardR (call : CallF) (d : Option Nat) (b : Bool) (o : MO) (e : Env) (st : St) : AV → Option (Env × St)
  | .bool c => if c = b then miR d e (o.run call (AO.ev e) st) else some (eput e d unmade, st)
  | .tuple _ => some (eput e d unmade, st)
  | _ => none
@[go_sem] theorem guardR_bool (call : CallF) (d : Option Nat) (b c : Bool) (o : MO) : guardR call d b o e st (.bool c) = if c = b then miR d e (o.run call (AO.ev e) st) else some (eput e d unmade, st) := rfl
@[go_sem] theorem guardR_tuple (call : CallF) (d : Option Nat) (b : Bool) (o : MO) (l : List AV) : guardR call d b o e st (.tuple l) = some (eput e d unmade, st) := rfl
@[go_sem] theorem MI_run_guard (call : CallF) (d : Option Nat) (t : Nat) (b : Bool) (o : MO) : MI.run call ⟨d, some (t, b), o⟩ e st = guardR call d b o e st (eget e t) := by
  simp only [MI.run, wanted]
  cases hv : eget e t with
  | bool c =>
    simp only [guardR]
    cases hcb : c == b with
    | true =>
      rw [if_pos (by simpa using hcb)]
      simp only
      cases o.run call (AO.ev e) st <;> rfl
    | false => rw [if_neg (by simpa using hcb)]
  | _ => rfl

@[go_sem] theorem MO_p (call : CallF) (ev : AO → AV) (o : PO) : MO.run call ev st (.p o) = (PO.run ev o).map fun v => (v, st) := by
  simp only [MO.run]; cases PO.run ev o <;> rfl
@[go_sem] theorem MO_r (call : CallF) (ev : AO → AV) (o : RO) : MO.run call ev st (.r o) = (RO.run ev st.h o).map fun v => (v, st) := by
  simp only [MO.run]; cases RO.run ev st.h o <;> rfl
@[go_sem] theorem MO_n (call : CallF) (ev : AO → AV) (o : NO) : MO.run call ev st (.n o) = (NO.run ev st.nx o).map fun p => (p.1, ⟨(st.nx, p.2) :: st.h, st.nx + 1⟩) := by
  simp only [MO.run]; cases NO.run ev st.nx o <;> rfl
@[go_sem] theorem MO_call (call : CallF) (ev : AO → AV) (f : AO) (xs : List AO) : MO.run call ev st (.w (.call f xs)) = call (ev f) (xs.map ev) st := rfl

@[go_sem] theorem MO_store (call : CallF) (ev : AO → AV) (z : Nat) (a x : AO) : MO.run call ev st (.w (.store z a x)) = WO.run call ev st (.store z a x) := rfl
@[go_sem] theorem MO_append (call : CallF) (ev : AO → AV) (a b c : Nat) (z : List AV) (s x : AO) : MO.run call ev st (.w (.append a b c z s x)) = aappend a b c st (ev s) (ev x) := rfl
@[go_sem] theorem MO_copy (call : CallF) (ev : AO → AV) (z : Nat) (a x : AO) : MO.run call ev st (.w (.copy z a x)) = WO.run call ev st (.copy z a x) := rfl
@[go_sem] theorem MO_mput (call : CallF) (ev : AO → AV) (k : Kd) (a b c : AO) : MO.run call ev st (.w (.mput k a b c)) = WO.run call ev st (.mput k a b c) := rfl

@[go_sem] theorem ev_t (n : Nat) : AO.ev e (.t n) = eget e n := rfl
@[go_sem] theorem ev_k (v : AV) : AO.ev e (.k v) = v := rfl
@[go_sem] theorem eput_some (d : Nat) (v : AV) : eput e (some d) v = (d, v) :: e := rfl
@[go_sem] theorem eput_none (v : AV) : eput e none v = e := rfl
@[go_sem] theorem eget_nil (t : Nat) : eget [] t = .bot := rfl
@[go_sem] theorem eget_cons (m t : Nat) (v : AV) : eget ((m, v) :: e) t = if m = t then v else eget e t := rfl
@[go_sem] theorem keepE_nil : keepE [] e = [] := rfl
@[go_sem] theorem keepE_cons (t : Nat) (l : List Nat) : keepE (t :: l) e = (t, eget e t) :: keepE l e := rfl

/-- Operations on bits: by name, so that rewriting does not look into them. -/
def iand (k : IntKind) (a b : Int) : Int := k.wrap (BitVec.ofInt k.bits a &&& BitVec.ofInt k.bits b).toNat
def ior (k : IntKind) (a b : Int) : Int := k.wrap (BitVec.ofInt k.bits a ||| BitVec.ofInt k.bits b).toNat
def ixor (k : IntKind) (a b : Int) : Int := k.wrap (BitVec.ofInt k.bits a ^^^ BitVec.ofInt k.bits b).toNat
def iandn (k : IntKind) (a b : Int) : Int := k.wrap (BitVec.ofInt k.bits a &&& ~~~ BitVec.ofInt k.bits b).toNat
def ishl (k : IntKind) (a b : Int) : Int := k.wrap (a * (2 ^ (min b.toNat k.bits) : Nat))
def ishr (k : IntKind) (a b : Int) : Int := a.fdiv (2 ^ (min b.toNat k.bits) : Nat)
def ixor1 (k : IntKind) (n : Int) : Int := k.wrap (BitVec.ofInt k.bits (if k.signed then -1 else k.max) ^^^ BitVec.ofInt k.bits n).toNat

section
variable (k k' : IntKind) (a b : Int)
@[go_sem] theorem abin_add : abin .add (.int k a) (.int k' b) = if k = k' then some (.int k (k.wrap (a + b))) else none := by simp only [abin, ibin, intF_eq, wrp_eq]
@[go_sem] theorem abin_sub : abin .sub (.int k a) (.int k' b) = if k = k' then some (.int k (k.wrap (a - b))) else none := by simp only [abin, ibin, intF_eq, wrp_eq]
@[go_sem] theorem abin_mul : abin .mul (.int k a) (.int k' b) = if k = k' then some (.int k (k.wrap (a * b))) else none := by simp only [abin, ibin, intF_eq, wrp_eq]
@[go_sem] theorem abin_quo : abin .quo (.int k a) (.int k' b) = if k = k' then (if b = 0 then none else some (.int k (k.wrap (a.tdiv b)))) else none := by simp only [abin, ibin, intF_eq, wrp_eq]
@[go_sem] theorem abin_rem : abin .rem (.int k a) (.int k' b) = if k = k' then (if b = 0 then none else some (.int k (a.tmod b))) else none := by simp only [abin, ibin, intF_eq]
@[go_sem] theorem abin_and : abin .and (.int k a) (.int k' b) = if k = k' then some (.int k (iand k a b)) else none := by simp only [abin, ibin, intF_eq, wrp_eq, iand]
@[go_sem] theorem abin_or : abin .or (.int k a) (.int k' b) = if k = k' then some (.int k (ior k a b)) else none := by simp only [abin, ibin, intF_eq, wrp_eq, ior]
@[go_sem] theorem abin_xor : abin .xor (.int k a) (.int k' b) = if k = k' then some (.int k (ixor k a b)) else none := by simp only [abin, ibin, intF_eq, wrp_eq, ixor]
@[go_sem] theorem abin_andNot : abin .andNot (.int k a) (.int k' b) = if k = k' then some (.int k (iandn k a b)) else none := by simp only [abin, ibin, intF_eq, wrp_eq, iandn]
@[go_sem] theorem abin_shl : abin .shl (.int k a) (.int k' b) = if b < 0 then none else some (.int k (ishl k a b)) := by simp only [abin, intF_eq, wrp_eq, ishl]
@[go_sem] theorem abin_shr : abin .shr (.int k a) (.int k' b) = if b < 0 then none else some (.int k (ishr k a b)) := by simp only [abin, intF_eq, ishr]
@[go_sem] theorem abin_eql : abin .eql (.int k a) (.int k' b) = if k = k' then some (.bool (decide (a = b))) else none := by simp only [abin, ibin]
@[go_sem] theorem abin_neq : abin .neq (.int k a) (.int k' b) = if k = k' then some (.bool (!decide (a = b))) else none := by simp only [abin, ibin]
@[go_sem] theorem abin_lss : abin .lss (.int k a) (.int k' b) = if k = k' then some (.bool (decide (a < b))) else none := by simp only [abin, ibin]
@[go_sem] theorem abin_leq : abin .leq (.int k a) (.int k' b) = if k = k' then some (.bool (decide (a ≤ b))) else none := by simp only [abin, ibin]
@[go_sem] theorem abin_gtr : abin .gtr (.int k a) (.int k' b) = if k = k' then some (.bool (decide (b < a))) else none := by simp only [abin, ibin]
@[go_sem] theorem abin_geq : abin .geq (.int k a) (.int k' b) = if k = k' then some (.bool (decide (b ≤ a))) else none := by simp only [abin, ibin]
@[go_sem] theorem abin_str (op : BinOp) (x y : List UInt8) : abin op (.str x) (.str y) = sbin op x y := by simp only [abin]
@[go_sem] theorem aun_neg : aun .neg (.int k a) = some (.int k (k.wrap (0 - a))) := by simp only [aun, intF_eq, wrp_eq]
@[go_sem] theorem aun_xor : aun .xor (.int k a) = some (.int k (ixor1 k a)) := by simp only [aun, intF_eq, wrp_eq, ixor1]
@[go_sem] theorem aun_not (x : Bool) : aun .not (.bool x) = some (.bool !x) := rfl
end

attribute [go_sem] PO.run intF_eq wrp_eq sbin Option.map_some Option.map_none

end Go.Ev

/- Calls on symbolic data: states that are well made, and what a call leaves alone. -/
namespace Go.Ev
open Go
set_option linter.unusedSimpArgs false
set_option linter.unusedVariables false

variable {T : Tab} {e : Env} {st st' st'' : St}

/-- Every name is below the next one. -/
structure St.Wf (st : St) : Prop where
  lt : ∀ n o, hget st.h n = some o → n < st.nx
  nd : (st.h.map (·.1)).Nodup

/-- A later state that holds what the first one held. -/
structure Ext (st st' : St) : Prop where
  nx : st.nx ≤ st'.nx
  wf : st'.Wf
  keep : ∀ n, n < st.nx → hget st'.h n = hget st.h n

theorem Ext.refl (h : st.Wf) : Ext st st := ⟨Nat.le_refl _, h, fun _ _ => rfl⟩
theorem Ext.trans (a : Ext st st') (b : Ext st' st'') : Ext st st'' :=
  ⟨Nat.le_trans a.nx b.nx, b.wf, fun n hn => by rw [b.keep n (Nat.lt_of_lt_of_le hn a.nx), a.keep n hn]⟩
theorem Ext.get (a : Ext st st') (hw : st.Wf) {n : Nat} {o : AObj} (h : hget st.h n = some o) : hget st'.h n = some o := by
  rw [a.keep n (hw.lt n o h), h]

/-- The same but for some objects. -/
structure Frm (S : List Nat) (st st' : St) : Prop where
  nx : st.nx ≤ st'.nx
  wf : st'.Wf
  keep : ∀ n, n < st.nx → n ∉ S → hget st'.h n = hget st.h n

theorem Ext.fr (a : Ext st st') (S : List Nat) : Frm S st st' := ⟨a.nx, a.wf, fun n hn _ => a.keep n hn⟩
theorem Frm.trans {S R : List Nat} (a : Frm S st st') (b : Frm R st' st'') (h : ∀ n ∈ R, n ∈ S ∨ st.nx ≤ n) : Frm S st st'' :=
  ⟨Nat.le_trans a.nx b.nx, b.wf, fun n hn hs => by
    rw [b.keep n (Nat.lt_of_lt_of_le hn a.nx) (fun hr => by
      rcases h n hr with h | h
      · exact hs h
      · omega), a.keep n hn hs]⟩
theorem Frm.mono {S R : List Nat} (a : Frm S st st') (h : ∀ n ∈ S, n ∈ R) : Frm R st st' := ⟨a.nx, a.wf, fun n hn hr => a.keep n hn (fun hs => hr (h n hs))⟩
theorem Frm.get {S : List Nat} (a : Frm S st st') (hw : st.Wf) {n : Nat} {o : AObj} (h : hget st.h n = some o) (hn : n ∉ S) : hget st'.h n = some o := by
  rw [a.keep n (hw.lt n o h) hn, h]
theorem Frm.ext {S : List Nat} (a : Frm S st st') (h : ∀ n ∈ S, st.nx ≤ n) : Ext st st' :=
  ⟨a.nx, a.wf, fun n hn => a.keep n hn (fun hs => by have := h n hs; omega)⟩

theorem hget_cons (m n : Nat) (o : AObj) (h : Heap) : hget ((m, o) :: h) n = if m = n then some o else hget h n := rfl
theorem hset_cons (m n : Nat) (o p : AObj) (h : Heap) : hset ((m, p) :: h) n o = if m = n then (n, o) :: h else (m, p) :: hset h n o := rfl

theorem hget_mem : ∀ {h : Heap} {n : Nat} {o : AObj}, hget h n = some o → (n, o) ∈ h
  | (m, p) :: h, n, o, hg => by
    simp only [hget] at hg
    split at hg
    · rename_i e; subst e; injection hg with e; subst e; exact List.mem_cons_self
    · exact List.mem_cons_of_mem _ (hget_mem hg)
theorem mem_hget : ∀ {h : Heap} {n : Nat} {o : AObj}, (h.map (·.1)).Nodup → (n, o) ∈ h → hget h n = some o
  | (m, p) :: h, n, o, hd, hm => by
    simp only [List.map_cons, List.nodup_cons] at hd
    simp only [hget]
    rcases List.mem_cons.1 hm with e | hm
    · injection e with e1 e2; subst e1; subst e2; rw [if_pos rfl]
    · rw [if_neg, mem_hget hd.2 hm]
      rintro rfl
      exact hd.1 (List.mem_map.2 ⟨_, hm, rfl⟩)
theorem hset_names : ∀ {h : Heap} {n : Nat} {o : AObj}, (hset h n o).map (·.1) = h.map (·.1)
  | [], _, _ => rfl
  | (m, p) :: h, n, o => by
    simp only [hset]
    split
    · rename_i e; subst e; rfl
    · simp [hset_names]
theorem hdel_sub : ∀ {h : Heap} {n : Nat}, ((hdel h n).map (·.1)).Sublist (h.map (·.1))
  | [], _ => List.Sublist.slnil
  | (m, p) :: h, n => by
    simp only [hdel]
    split
    · exact hdel_sub.cons _
    · exact hdel_sub.cons_cons _
theorem hdrop_sub : ∀ {l : List Nat} {h : Heap}, ((hdrop l h).map (·.1)).Sublist (h.map (·.1))
  | _, [] => List.Sublist.slnil
  | l, (m, p) :: h => by
    simp only [hdrop]
    split
    · exact hdrop_sub.cons _
    · exact hdrop_sub.cons_cons _

theorem locNames_nil : ∀ {h : Heap} {c : Nat}, (∀ n o, hget h n = some o → n < c) → locNames c h = []
  | [], _, _ => rfl
  | (m, o) :: h, c, hh => by
    have hm : m < c := hh m o (by simp [hget])
    have ht : ∀ n p, hget h n = some p → n < c := fun n p hp => by
      by_cases e : m = n
      · subst e; exact hm
      · exact hh n p (by simp only [hget]; rw [if_neg e]; exact hp)
    simp only [locNames]
    split
    · rw [if_pos hm, locNames_nil ht]
    · exact locNames_nil ht

theorem hdrop_id : ∀ {h : Heap} {l : List Nat}, (∀ n ∈ l, hget h n = none) → hdrop l h = h
  | [], _, _ => rfl
  | (m, o) :: h, l, hh => by
    have hm : hmem m l = false := by
      cases hq : hmem m l with
      | false => rfl
      | true =>
        have := hh m (hmem_iff.1 hq)
        simp [hget] at this
    simp only [hdrop, hm, Bool.false_eq_true, if_false]
    rw [hdrop_id (fun n hn => by
      have := hh n hn
      simp only [hget] at this
      split at this
      · cases this
      · exact this)]

theorem hdrop_nil (h : Heap) : hdrop [] h = h := hdrop_id (fun n hn => by cases hn)
theorem dropLoc_eq (c : Nat) (h : Heap) : dropLoc c h = hdrop (locNames c h) h := by
  unfold dropLoc
  split
  · rename_i he; rw [he, hdrop_nil]
  · rfl

theorem hget_hdrop_iff : ∀ {h : Heap} {l : List Nat} {n : Nat}, hget (hdrop l h) n = if n ∈ l then none else hget h n
  | [], l, n => by simp [hdrop, hget]
  | (m, o) :: h, l, n => by
    simp only [hdrop]
    split
    · rename_i hm
      rw [hget_hdrop_iff]
      simp only [hget]
      split
      · rfl
      · rename_i hn
        rw [if_neg]
        rintro rfl
        exact hn (hmem_iff.1 hm)
    · rename_i hm
      simp only [hget]
      rw [hget_hdrop_iff]
      by_cases e : m = n
      · subst e
        rw [if_pos rfl, if_pos rfl, if_neg (fun h => hm (hmem_iff.2 h))]
      · rw [if_neg e, if_neg e]

theorem mem_locNames : ∀ {h : Heap} {c n : Nat}, n ∈ locNames c h → c ≤ n
  | [], _, _, hn => by cases hn
  | (m, o) :: h, c, n, hn => by
    simp only [locNames] at hn
    split at hn
    · split at hn
      · exact mem_locNames hn
      · rcases List.mem_cons.1 hn with rfl | hn
        · omega
        · exact mem_locNames hn
    · exact mem_locNames hn

theorem mem_locNames_loc : ∀ {h : Heap} {c n : Nat}, n ∈ locNames c h → ∃ ty cs, (n, AObj.cells ty true cs) ∈ h
  | [], _, _, hn => by cases hn
  | (m, o) :: h, c, n, hn => by
    simp only [locNames] at hn
    split at hn
    · split at hn
      · obtain ⟨ty, cs, h⟩ := mem_locNames_loc hn; exact ⟨ty, cs, List.mem_cons_of_mem _ h⟩
      · rcases List.mem_cons.1 hn with rfl | hn
        · exact ⟨_, _, List.mem_cons_self⟩
        · obtain ⟨ty, cs, h⟩ := mem_locNames_loc hn; exact ⟨ty, cs, List.mem_cons_of_mem _ h⟩
    · obtain ⟨ty, cs, h⟩ := mem_locNames_loc hn; exact ⟨ty, cs, List.mem_cons_of_mem _ h⟩

/-- What is dropped is of the call's own. -/
theorem hget_dropLoc_lt {h : Heap} {c n : Nat} (hn : n < c) : hget (dropLoc c h) n = hget h n := by
  rw [dropLoc_eq, hget_hdrop_iff, if_neg]
  intro hm
  have := mem_locNames hm
  omega

theorem hget_dropLoc_some {h : Heap} {c n : Nat} {o : AObj} (hg : hget (dropLoc c h) n = some o) : hget h n = some o := by
  rw [dropLoc_eq, hget_hdrop_iff] at hg
  split at hg
  · cases hg
  · exact hg

theorem dropLoc_sub {h : Heap} {c : Nat} : ((dropLoc c h).map (·.1)).Sublist (h.map (·.1)) := by
  rw [dropLoc_eq]; exact hdrop_sub
theorem St.Wf.dropLoc (a : st'.Wf) (c : Nat) : St.Wf ⟨dropLoc c st'.h, st'.nx⟩ := ⟨fun n o ho => a.lt n o (hget_dropLoc_some ho), a.nd.sublist dropLoc_sub⟩
/-- Is it a block that goes with its call? -/
def AObj.lc : AObj → Bool
  | .cells _ true _ => true
  | _ => false
theorem hget_dropLoc_keep {c n : Nat} {o : AObj} (hw : st.Wf) (hg : hget st.h n = some o) (hl : o.lc = false) : hget (dropLoc c st.h) n = some o := by
  rw [dropLoc_eq, hget_hdrop_iff, if_neg, hg]
  intro hm
  obtain ⟨ty, cs, hmem⟩ := mem_locNames_loc hm
  rw [mem_hget hw.nd hmem] at hg
  injection hg with e
  subst e
  cases hl

theorem Ext.dropLoc (a : Ext st st') : Ext st ⟨dropLoc st.nx st'.h, st'.nx⟩ :=
  ⟨a.nx, a.wf.dropLoc _, fun n hn => by rw [hget_dropLoc_lt hn, a.keep n hn]⟩

/-- Names laid aside. -/
theorem Ext.aside (h : st.Wf) (k : Nat) : Ext st ⟨st.h, st.nx + k⟩ := ⟨Nat.le_add_right _ _, ⟨fun n o ho => Nat.lt_of_lt_of_le (h.lt n o ho) (Nat.le_add_right _ _), h.nd⟩, fun _ _ => rfl⟩

theorem Frm.dropLoc {S : List Nat} (a : Frm S st st') : Frm S st ⟨Go.Ev.dropLoc st.nx st'.h, st'.nx⟩ :=
  ⟨a.nx, a.wf.dropLoc _, fun n hn hs => by rw [hget_dropLoc_lt hn, a.keep n hn hs]⟩

/-- An object is written. -/
theorem Frm.set (h : st.Wf) {n : Nat} {o p : AObj} (hg : hget st.h n = some p) : Frm [n] st ⟨hset st.h n o, st.nx⟩ :=
  ⟨Nat.le_refl _, ⟨fun m q hq => by
    rw [hget_hset hg] at hq
    split at hq
    · rename_i e; subst e; exact h.lt _ _ hg
    · exact h.lt _ _ hq, by show ((hset st.h n o).map _).Nodup; rw [hset_names]; exact h.nd⟩, fun m hm hs => by
    rw [hget_hset hg, if_neg]
    rintro rfl
    exact hs List.mem_cons_self⟩

/-- A new object. -/
theorem Ext.new (h : st.Wf) (o : AObj) : Ext st ⟨(st.nx, o) :: st.h, st.nx + 1⟩ := by
  refine ⟨Nat.le_succ _, ⟨fun n p hp => ?_, ?_⟩, fun n hn => ?_⟩
  · simp only [hget] at hp
    split at hp
    · rename_i e; subst e; exact Nat.lt_succ_self _
    · exact Nat.lt_succ_of_lt (h.lt n p hp)
  · simp only [List.map_cons, List.nodup_cons]
    refine ⟨fun hm => ?_, h.nd⟩
    obtain ⟨⟨m, p⟩, hm, e⟩ := List.mem_map.1 hm
    simp only at e
    subst e
    have := h.lt _ _ (mem_hget h.nd hm)
    omega
  · simp only [hget]
    rw [if_neg (by omega)]

/-- What a call comes to, from its body. -/
def callR (mf : MFun) (st : St) : Option (Ex × Env × St) → Option (AV × St)
  | some (.norm, e, s) | some (.ret, e, s) => (fresults s.h e mf.results).map fun v => (v, ⟨dropLoc st.nx s.h, s.nx⟩)
  | _ => none

theorem call_fn {k : Nat} {mf : MFun} (hen : T.en k = none) (hf : T.fn k = some mf) {first args cap : List AV} (hl : (first ++ args ++ cap).length = mf.nargs) :
    call T (.fn k first cap) args st = callR mf st (run T mf.body (argEnv 0 (first ++ args ++ cap)) st) := by
  simp only [call, evCall, evCallF, hen, hf]
  rw [if_pos hl]
  unfold callR
  split <;> rename_i h1 <;> simp only [h1]
  · cases fresults _ _ mf.results <;> rfl
  · cases fresults _ _ mf.results <;> rfl

/-- A result, and what holds of it. -/
def Res (r : Option (Ex × Env × St)) (Q : Ex → Env → St → Prop) : Prop := match r with | some (x, e, s) => Q x e s | none => False
@[go_sem] theorem Res_some (x : Ex) (s : St) (Q : Ex → Env → St → Prop) : Res (some (x, e, s)) Q = Q x e s := rfl

theorem Res.elim {r : Option (Ex × Env × St)} {Q : Ex → Env → St → Prop} (h : Res r Q) : ∃ x e s, r = some (x, e, s) ∧ Q x e s := by
  unfold Res at h
  split at h
  · exact ⟨_, _, _, rfl, h⟩
  · exact h.elim

theorem Res.mono {r : Option (Ex × Env × St)} {Q R : Ex → Env → St → Prop} (h : Res r Q) (hq : ∀ x e s, Q x e s → R x e s) : Res r R := by
  obtain ⟨x, e, s, rfl, h⟩ := h.elim
  exact hq _ _ _ h

/-- The same for operations, and for calls. -/
def ORes (r : Option (Env × St)) (Q : Env → St → Prop) : Prop := match r with | some (e, s) => Q e s | none => False
def CRes (r : Option (AV × St)) (Q : AV → St → Prop) : Prop := match r with | some (v, s) => Q v s | none => False
@[go_sem] theorem ORes_some (s : St) (Q : Env → St → Prop) : ORes (some (e, s)) Q = Q e s := rfl
@[go_sem] theorem CRes_some (v : AV) (s : St) (Q : AV → St → Prop) : CRes (some (v, s)) Q = Q v s := rfl

/-- What follows, as data: nothing of it is looked into before it is reached. -/
def kSeq (T : Tab) (b : MCode) (Q : Ex → Env → St → Prop) (x : Ex) (e : Env) (s : St) : Prop := Res (seqR T b (some (x, e, s))) Q
@[go_sem] theorem kSeq_norm (b : MCode) (Q : Ex → Env → St → Prop) (s : St) : kSeq T b Q .norm e s = Res (run T b e s) Q := rfl
@[go_sem] theorem kSeq_exit (b : MCode) (Q : Ex → Env → St → Prop) (i : Nat) (s : St) : kSeq T b Q (.exit i) e s = Q (.exit i) e s := rfl
@[go_sem] theorem kSeq_ret (b : MCode) (Q : Ex → Env → St → Prop) (s : St) : kSeq T b Q .ret e s = Q .ret e s := rfl
@[go_sem] theorem Res_seqR (b : MCode) (r : Option (Ex × Env × St)) (Q : Ex → Env → St → Prop) : Res (seqR T b r) Q = Res r (kSeq T b Q) := by
  cases r with
  | none => rfl
  | some p => obtain ⟨x, e, s⟩ := p; rfl
def kBlk (i : Nat) (Q : Ex → Env → St → Prop) (x : Ex) (e : Env) (s : St) : Prop := Res (blockE i (some (x, e, s))) Q
@[go_sem] theorem kBlk_norm (i : Nat) (Q : Ex → Env → St → Prop) (s : St) : kBlk i Q .norm e s = Q .norm e s := rfl
@[go_sem] theorem kBlk_ret (i : Nat) (Q : Ex → Env → St → Prop) (s : St) : kBlk i Q .ret e s = Q .ret e s := rfl
@[go_sem] theorem kBlk_exit (i j : Nat) (Q : Ex → Env → St → Prop) (s : St) : kBlk i Q (.exit j) e s = if j = i then Q .norm e s else Q (.exit j) e s := by
  unfold kBlk
  rw [blockE_exit]
  split <;> rfl
@[go_sem] theorem Res_blockE (i : Nat) (r : Option (Ex × Env × St)) (Q : Ex → Env → St → Prop) : Res (blockE i r) Q = Res r (kBlk i Q) := by
  cases r with
  | none => rfl
  | some p => obtain ⟨x, e, s⟩ := p; rfl
def kE (Q : Ex → Env → St → Prop) (e : Env) (s : St) : Prop := Q .norm e s
@[go_sem] theorem kE_eq (Q : Ex → Env → St → Prop) (s : St) : kE Q e s = Q .norm e s := rfl
@[go_sem] theorem Res_opsE (r : Option (Env × St)) (Q : Ex → Env → St → Prop) : Res (opsE r) Q = ORes r (kE Q) := by
  cases r <;> rfl
def kOps (call : CallF) (l : List MI) (K : Env → St → Prop) (e : Env) (s : St) : Prop := ORes (runOps call l e s) K
@[go_sem] theorem kOps_eq (call : CallF) (l : List MI) (K : Env → St → Prop) (s : St) : kOps call l K e s = ORes (runOps call l e s) K := rfl
@[go_sem] theorem ORes_opsR (call : CallF) (l : List MI) (r : Option (Env × St)) (K : Env → St → Prop) : ORes (opsR call l r) K = ORes r (kOps call l K) := by
  cases r <;> rfl
def kPut (d : Option Nat) (e : Env) (K : Env → St → Prop) (v : AV) (s : St) : Prop := K (eput e d v) s
@[go_sem] theorem kPut_eq (d : Option Nat) (K : Env → St → Prop) (v : AV) (s : St) : kPut d e K v s = K (eput e d v) s := rfl
@[go_sem] theorem ORes_miR (d : Option Nat) (r : Option (AV × St)) (K : Env → St → Prop) : ORes (miR d e r) K = CRes r (kPut d e K) := by
  cases r <;> rfl

/-- The operations of a drawn region. -/
def IRes (r : Option (Env × St × Nat)) (Q : Env → St → Nat → Prop) : Prop := match r with | some (e, s, n) => Q e s n | none => False
@[go_sem] theorem IRes_some (s : St) (n : Nat) (Q : Env → St → Nat → Prop) : IRes (some (e, s, n)) Q = Q e s n := rfl
def kR (call : CallF) (d : List (Nat × MI)) (l : List RI) (K : Env → St → Prop) (e : Env) (s : St) (nm : Nat) : Prop := ORes (runR call d nm l e s) K
@[go_sem] theorem kR_eq (call : CallF) (d : List (Nat × MI)) (l : List RI) (K : Env → St → Prop) (s : St) (nm : Nat) : kR call d l K e s nm = ORes (runR call d nm l e s) K := rfl
@[go_sem] theorem runR_end (call : CallF) (d : List (Nat × MI)) (nm : Nat) (s : St) : runR call d nm [] e s = some (e, s) := rfl
@[go_sem] theorem runR_op (call : CallF) (d : List (Nat × MI)) (nm i : Nat) (o : MI) (l : List RI) (s : St) (K : Env → St → Prop) :
    ORes (runR call d nm (.op i o :: l) e s) K = IRes (runI call nm o e s) (kR call ((i, o) :: d) l K) := by
  simp only [runR]
  cases runI call nm o e s with
  | none => rfl
  | some p => obtain ⟨e, s, n⟩ := p; rfl
@[go_sem] theorem runR_re (call : CallF) (d : List (Nat × MI)) (nm i : Nat) (l : List RI) (s : St) (K : Env → St → Prop) :
    ORes (runR call d nm (.re i :: l) e s) K = (reI d i e s = true ∧ ORes (runR call d nm l e s) K) := by
  simp only [runR]
  by_cases h : reI d i e s = true
  · simp [h]
  · simp [h, ORes]
@[go_sem] theorem dfind_cons (j i : Nat) (o : MI) (r : List (Nat × MI)) : dfind ((j, o) :: r) i = if j = i then some o else dfind r i := rfl

/-- An operation that is no new block. -/
def iR (nm : Nat) (d : Option Nat) (e : Env) : Option (AV × St) → Option (Env × St × Nat)
  | some (v, s) => some (eput e d v, s, nm)
  | none => none
def kPutI (nm : Nat) (d : Option Nat) (e : Env) (Q : Env → St → Nat → Prop) (v : AV) (s : St) : Prop := Q (eput e d v) s nm
@[go_sem] theorem kPutI_eq (nm : Nat) (d : Option Nat) (Q : Env → St → Nat → Prop) (v : AV) (s : St) : kPutI nm d e Q v s = Q (eput e d v) s nm := rfl
@[go_sem] theorem IRes_iR (nm : Nat) (d : Option Nat) (r : Option (AV × St)) (Q : Env → St → Nat → Prop) : IRes (iR nm d e r) Q = CRes r (kPutI nm d e Q) := by
  cases r <;> rfl
@[go_sem] theorem runI_p (call : CallF) (nm : Nat) (d : Option Nat) (p : PO) (s : St) : runI call nm ⟨d, none, .p p⟩ e s = iR nm d e (MO.run call (AO.ev e) s (.p p)) := by
  simp only [runI, wanted]; cases MO.run call (AO.ev e) s (.p p) <;> rfl
@[go_sem] theorem runI_r (call : CallF) (nm : Nat) (d : Option Nat) (p : RO) (s : St) : runI call nm ⟨d, none, .r p⟩ e s = iR nm d e (MO.run call (AO.ev e) s (.r p)) := by
  simp only [runI, wanted]; cases MO.run call (AO.ev e) s (.r p) <;> rfl
@[go_sem] theorem runI_w (call : CallF) (nm : Nat) (d : Option Nat) (p : WO) (s : St) : runI call nm ⟨d, none, .w p⟩ e s = iR nm d e (MO.run call (AO.ev e) s (.w p)) := by
  simp only [runI, wanted]; cases MO.run call (AO.ev e) s (.w p) <;> rfl
@[go_sem] theorem runI_n (call : CallF) (nm : Nat) (d : Option Nat) (p : NO) (s : St) : runI call nm ⟨d, none, .n p⟩ e s = (NO.run (AO.ev e) nm p).map fun q => (eput e d q.1, ⟨(nm, q.2) :: s.h, s.nx⟩, nm + 1) := by
  simp only [runI, wanted]; cases NO.run (AO.ev e) nm p <;> rfl
/-- The same under a guard. -/
def igR (call : CallF) (nm : Nat) (d : Option Nat) (b : Bool) (o : MO) (e : Env) (s : St) : AV → Option (Env × St × Nat)
  | .bool c => if c = b then runI call nm ⟨d, none, o⟩ e s else some (eput e d unmade, s, nm)
  | .tuple _ => some (eput e d unmade, s, nm)
  | _ => none
@[go_sem] theorem igR_bool (call : CallF) (nm : Nat) (d : Option Nat) (b c : Bool) (o : MO) (s : St) : igR call nm d b o e s (.bool c) = if c = b then runI call nm ⟨d, none, o⟩ e s else some (eput e d unmade, s, nm) := rfl
@[go_sem] theorem igR_tuple (call : CallF) (nm : Nat) (d : Option Nat) (b : Bool) (o : MO) (l : List AV) (s : St) : igR call nm d b o e s (.tuple l) = some (eput e d unmade, s, nm) := rfl
@[go_sem] theorem runI_guard (call : CallF) (nm : Nat) (d : Option Nat) (t : Nat) (b : Bool) (o : MO) (s : St) : runI call nm ⟨d, some (t, b), o⟩ e s = igR call nm d b o e s (eget e t) := by
  simp only [runI, wanted]
  cases hv : eget e t with
  | bool c =>
    simp only [igR]
    cases hcb : c == b with
    | true =>
      rw [if_pos (by simpa using hcb)]
      simp only [runI, wanted]
    | false => rw [if_neg (by simpa using hcb)]
  | _ => rfl

mutual
theorem avEq_refl : ∀ a : AV, avEq a a = true
  | .bot | .nilptr | .nilslice | .nilmap | .nilfn | .niliface => rfl
  | .bool b => by simp [avEq]
  | .int k n => by simp [avEq]
  | .str s => by simp only [avEq]; exact seq8_iff.2 rfl
  | .ptr n o => by simp [avEq]
  | .slice n o l c => by simp [avEq]
  | .map n => by simp [avEq]
  | .fn f a b => by simp [avEq, avEqs_refl a, avEqs_refl b]
  | .yield l => by simp [avEq]
  | .iface t v => by simp [avEq, avEq_refl v]
  | .agg a => by simp [avEq, avEqs_refl a]
  | .tuple a => by simp [avEq, avEqs_refl a]
theorem avEqs_refl : ∀ a : List AV, avEqs a a = true
  | [] => rfl
  | x :: a => by simp [avEqs, avEq_refl x, avEqs_refl a]
end
attribute [go_sem] avEq_refl

/-- One cell is written. -/
theorem wr_cells {h : Heap} {n o ty : Nat} {loc : Bool} {cs : List AV} {v : AV} (hg : hget h n = some (.cells ty loc cs)) (hv : v.sc = true) (ho : o < cs.length) : wrCells h n o [v] = some (hset h n (.cells ty loc (cs.set o v))) := by
  simp only [wrCells, hg, List.length_singleton, List.all_cons, List.all_nil, hv, Bool.and_self, and_true, splice]
  rw [if_pos (by omega)]
theorem wr_buf {h : Heap} {n o ty es : Nat} {cs : List AV} {v : AV} (hg : hget h n = some (.buf ty es cs)) (hv : v.sc = true) (ho : o < cs.length) : wrCells h n o [v] = some (hset h n (.buf ty es (cs.set o v))) := by
  simp only [wrCells, hg, List.length_singleton, List.all_cons, List.all_nil, hv, Bool.and_self, and_true, splice]
  rw [if_pos (by omega)]
@[go_sem] theorem acells_int (k : IntKind) (n : Int) : acells (.int k n) = [.int k n] := rfl
@[go_sem] theorem acells_bool (b : Bool) : acells (.bool b) = [.bool b] := rfl
@[go_sem] theorem acells_slice (n o l : Nat) (c : Cap) : acells (.slice n o l c) = [.slice n o l c] := rfl
@[go_sem] theorem acells_nil : acells .nilslice = [.nilslice] := rfl
@[go_sem] theorem acells_str (s : List UInt8) : acells (.str s) = [.str s] := rfl
@[go_sem] theorem acells_ptr (n o : Nat) : acells (.ptr n o) = [.ptr n o] := rfl
@[go_sem] theorem acells_agg (cs : List AV) : acells (.agg cs) = cs := rfl
@[go_sem] theorem sc_int (k : IntKind) (n : Int) : (AV.int k n).sc = true := rfl
@[go_sem] theorem sc_bool (b : Bool) : (AV.bool b).sc = true := rfl
@[go_sem] theorem sc_slice (n o l : Nat) (c : Cap) : (AV.slice n o l c).sc = true := rfl
@[go_sem] theorem sc_nil : AV.nilslice.sc = true := rfl
@[go_sem] theorem sc_str (s : List UInt8) : (AV.str s).sc = true := rfl
@[go_sem] theorem sc_ptr (n o : Nat) : (AV.ptr n o).sc = true := rfl

theorem CRes.elim {r : Option (AV × St)} {Q : AV → St → Prop} (h : CRes r Q) : ∃ v s, r = some (v, s) ∧ Q v s := by
  unfold CRes at h
  split at h
  · exact ⟨_, _, rfl, h⟩
  · exact h.elim
theorem CRes.mono {r : Option (AV × St)} {Q R : AV → St → Prop} (h : CRes r Q) (hq : ∀ v s, Q v s → R v s) : CRes r R := by
  obtain ⟨v, s, rfl, h⟩ := h.elim
  exact hq _ _ h

/-- A function that only tells. -/
def Tells (T : Tab) (st : St) (f : AV) (args : List AV) (v : AV) : Prop := CRes (call T f args st) fun v' s => v' = v ∧ Ext st s

theorem Tells.use {f : AV} {args : List AV} {v : AV} {Q : AV → St → Prop} (h : Tells T st f args v) (hq : ∀ s, Ext st s → Q v s) : CRes (call T f args st) Q :=
  CRes.mono h (by rintro v' s ⟨rfl, hx⟩; exact hq s hx)

/-- A call, by its body. -/
theorem call_res {k : Nat} {mf : MFun} (hen : T.en k = none) (hf : T.fn k = some mf) {first args cap : List AV} (hl : (first ++ args ++ cap).length = mf.nargs) {Q : AV → St → Prop}
    (hr : Res (run T mf.body (argEnv 0 (first ++ args ++ cap)) st) fun x e s => (x = .norm ∨ x = .ret) ∧ ∃ v, fresults s.h e mf.results = some v ∧ Q v ⟨dropLoc st.nx s.h, s.nx⟩) :
    CRes (call T (.fn k first cap) args st) Q := by
  obtain ⟨x, e, s, h1, h2, v, h3, h4⟩ := hr.elim
  rw [call_fn hen hf hl, h1]
  rcases h2 with rfl | rfl <;> simp only [callR, h3, Option.map_some, CRes_some] <;> exact h4

theorem tells_of {k : Nat} {mf : MFun} (hen : T.en k = none) (hf : T.fn k = some mf) {first args cap : List AV} (hl : (first ++ args ++ cap).length = mf.nargs) {v : AV}
    (hr : Res (run T mf.body (argEnv 0 (first ++ args ++ cap)) st) fun x e s => (x = .norm ∨ x = .ret) ∧ fresults s.h e mf.results = some v ∧ Ext st s) :
    Tells T st (.fn k first cap) args v :=
  call_res hen hf hl (hr.mono fun _ _ _ ⟨h1, h2, h3⟩ => ⟨h1, v, h2, rfl, h3.dropLoc⟩)

/-- One round of a loop over a map. -/
def Round (T : Tab) (nx more pair : Nat) (post : List MI) (ks : List Nat) (body : MCode) (e : Env) (st : St) (k v : AV) : Prop :=
  ORes (runOps (call T) post ((pair, .tuple [k, v]) :: (more, .bool true) :: (nx, .tuple [.bool true, .bot, .bot]) :: e) st) fun e2 st2 =>
    Res (run T body e2 st2) fun x e' s' => x = .norm ∧ SameOn ks e e' ∧ KeptIn st.h s'.h

theorem ORes.elim {r : Option (Env × St)} {Q : Env → St → Prop} (h : ORes r Q) : ∃ e s, r = some (e, s) ∧ Q e s := by
  unfold ORes at h
  split at h
  · exact ⟨_, _, rfl, h⟩
  · exact h.elim

theorem rounds_of {nx more pair : Nat} {post : List MI} {ks : List Nat} {body : MCode} :
    ∀ {es : List (AV × AV)}, (∀ p ∈ es, Round T nx more pair post ks body e st p.1 p.2) → rounds (call T) (run T) nx more pair post ks body e st es = some ()
  | [], _ => rfl
  | (k, v) :: r, h => by
    obtain ⟨e2, st2, h1, h2⟩ := (h (k, v) List.mem_cons_self).elim
    obtain ⟨x, e', s', h3, rfl, h5, h6⟩ := h2.elim
    simp only [rounds, eset, h1, h3]
    rw [if_pos ⟨h5, h6⟩]
    exact rounds_of fun p hp => h p (List.mem_cons_of_mem _ hp)

theorem res_rangeMap {pre : List MI} {m : AO} {d nx more pair : Nat} {post : List MI} {ks : List Nat} {out next : Nat} {body : MCode} {Q : Ex → Env → St → Prop}
    (h : ORes (runOps (call T) pre e st) fun e1 st1 => ∃ n es, m.ev e1 = .map n ∧ hget st1.h n = some (.map es) ∧
      (∀ p ∈ es, Round T nx more pair post (d :: ks) body ((d, .ptr st1.nx 0) :: keepE ks e1) ⟨hdel st1.h n, st1.nx + 1⟩ p.1 p.2) ∧ Q .norm ((d, .ptr st1.nx 0) :: keepE ks e1) ⟨hdel st1.h n, st1.nx + 1⟩) :
    Res (run T (.rangeMap pre m d nx more pair post ks out next body) e st) Q := by
  obtain ⟨e1, st1, h1, n, es, h2, h3, h4, h5⟩ := h.elim
  have h6 := rounds_of h4
  rw [run_eq]
  simp only [evStep]
  have h1' : runOps (evCall T (run T)) pre e st = some (e1, st1) := h1
  have h6' : rounds (evCall T (run T)) (run T) nx more pair post (d :: ks) body ((d, .ptr st1.nx 0) :: keepE ks e1) ⟨hdel st1.h n, st1.nx + 1⟩ es = some () := h6
  simp only [h1', h2, h3, h6']
  exact h5

theorem Ext.kept (a : Ext st st') (hw : st.Wf) : KeptIn st.h st'.h := fun _ _ h => a.get hw h

theorem St.Wf.del (h : st.Wf) (n : Nat) : St.Wf ⟨hdel st.h n, st.nx⟩ := ⟨fun m o ho => by
    rw [hget_hdel] at ho
    split at ho
    · cases ho
    · exact h.lt m o ho, h.nd.sublist hdel_sub⟩

@[go_sem] theorem fresults_one (h : Heap) (t : Nat) : fresults h e [.t t] = some (eget e t) := rfl
@[go_sem] theorem fresults_none (h : Heap) : fresults h e [] = some (.tuple []) := rfl
@[go_sem] theorem fresults_two (h : Heap) (t u : Nat) : fresults h e [.t t, .t u] = some (.tuple [eget e t, eget e u]) := rfl
@[go_sem] theorem fresults_three (h : Heap) (t u v : Nat) : fresults h e [.t t, .t u, .t v] = some (.tuple [eget e t, eget e u, eget e v]) := rfl
attribute [go_sem] afold aminmax argEnv List.getElem?_cons_zero List.getElem?_cons_succ

end Go.Ev

/- From the evaluator's word on a law to the model's. -/
namespace Go.Ev
open Go Go.RowKit
set_option linter.unusedSimpArgs false
set_option linter.unusedVariables false

variable {X : Cx} {T : Tab}

/-- What a law's call comes to: it returns true, and no older block is changed. -/
theorem law_calls (hT : TabOK chkD X T) (hmix : X.P.follows .mixedOrders = true) {k : Nat} {mf : MFun} (hen : T.en k = none) (hf : T.fn k = some mf) {args : List AV} {st : St} {N : Nu} {w : World} {us : List Value} (hl : args.length = mf.nargs)
    (h : CRes (call T (.fn k [] []) args st) fun v _ => v = .bool true) (hr : SR chkD X N st w) (ha : VRs X N args us) (hown : ∀ b, ¬ Own N st.h b) :
    Calls X.P (X.φ k) us.toArray w fun e w' => e = .returned (.bool true) ∧ Below w.heap.size w w' := by
  obtain ⟨v, s, h1, rfl⟩ := h.elim
  rw [call_fn hen hf (by simpa using hl)] at h1
  simp only [List.nil_append, List.append_nil] at h1
  cases hr2 : run T mf.body (argEnv 0 args) st with
  | none => rw [hr2] at h1; cases h1
  | some p =>
    obtain ⟨x, e, s2⟩ := p
    rw [hr2] at h1
    obtain ⟨n, hn⟩ := run_iff.1 hr2
    have key : (x = .norm ∨ x = .ret) ∧ fresults s2.h e mf.results = some (.bool true) := by
      cases x with
      | norm =>
        refine ⟨.inl rfl, ?_⟩
        simp only [callR] at h1
        cases hv : fresults s2.h e mf.results with
        | none => rw [hv] at h1; cases h1
        | some u => rw [hv] at h1; simp only [Option.map_some, Option.some.injEq, Prod.mk.injEq] at h1; rw [h1.1]
      | ret =>
        refine ⟨.inr rfl, ?_⟩
        simp only [callR] at h1
        cases hv : fresults s2.h e mf.results with
        | none => rw [hv] at h1; cases h1
        | some u => rw [hv] at h1; simp only [Option.map_some, Option.some.injEq, Prod.mk.injEq] at h1; rw [h1.1]
      | _ => cases h1
    exact exec_calls (exec_ok hT (drawOK hmix) n) hT hen hf hn key.1 key.2 hr ha hown

/-- No block is named yet. -/
def Nu.none : Nu := ⟨fun _ => Option.none, fun _ => 0⟩
theorem sr_none (n : Nat) (w : World) : SR chkD X Nu.none ⟨[], n⟩ w := ⟨⟨(fun n o h => by cases h), (fun n m o p a c h => by cases h)⟩, fun _ _ => rfl⟩
theorem own_none (b : Nat) : ¬ Own Nu.none [] b := fun ⟨n, o, a, h, _⟩ => by cases h

end Go.Ev

/- Short words for the printed bodies of functions. -/
namespace Go.Ev
open Go

instance (n : Nat) : OfNat AO n := ⟨.t (OfNat.ofNat n)⟩
@[go_sem] theorem ao_num (n : Nat) : (OfNat.ofNat n : AO) = .t (OfNat.ofNat n) := rfl

@[go_sem] theorem MO_nextS {st : St} (call : CallF) (ev : AO → AV) (x : AO) : MO.run call ev st (.w (.nextS x)) = WO.run call ev st (.nextS x) := rfl
@[go_sem] theorem MO_ustr {st : St} (call : CallF) (ev : AO → AV) (t : Nat) (x y : AO) : MO.run call ev st (.w (.ustr t x y)) = WO.run call ev st (.ustr t x y) := rfl

namespace B
def p (d : Nat) (o : PO) : MI := ⟨some d, none, .p o⟩
def r (d : Nat) (o : RO) : MI := ⟨some d, none, .r o⟩
def n (d : Nat) (o : NO) : MI := ⟨some d, none, .n o⟩
def w (d : Nat) (o : WO) : MI := ⟨some d, none, .w o⟩
def p0 (o : PO) : MI := ⟨none, none, .p o⟩
def r0 (o : RO) : MI := ⟨none, none, .r o⟩
def n0 (o : NO) : MI := ⟨none, none, .n o⟩
def w0 (o : WO) : MI := ⟨none, none, .w o⟩
def pg (d t : Nat) (b : Bool) (o : PO) : MI := ⟨some d, some (t, b), .p o⟩
def rg (d t : Nat) (b : Bool) (o : RO) : MI := ⟨some d, some (t, b), .r o⟩
def ng (d t : Nat) (b : Bool) (o : NO) : MI := ⟨some d, some (t, b), .n o⟩
def wg (d t : Nat) (b : Bool) (o : WO) : MI := ⟨some d, some (t, b), .w o⟩
def ph (t : Nat) (b : Bool) (o : PO) : MI := ⟨none, some (t, b), .p o⟩
def rh (t : Nat) (b : Bool) (o : RO) : MI := ⟨none, some (t, b), .r o⟩
def nh (t : Nat) (b : Bool) (o : NO) : MI := ⟨none, some (t, b), .n o⟩
def wh (t : Nat) (b : Bool) (o : WO) : MI := ⟨none, some (t, b), .w o⟩
attribute [go_sem] p r n w p0 r0 n0 w0 pg rg ng wg ph rh nh wh
end B
end Go.Ev

/- Functions of numbers, bools and strings that leave the heap alone: what the kernel finds in an empty state holds in any. -/
namespace Go.Ev
open Go
set_option linter.unusedSimpArgs false
set_option linter.unusedVariables false

variable {T T' : Tab} {st : St}

def pureI (i : MI) : Bool :=
  match i.op with
  | .p _ => true
  | .w (.call (.k (.fn _ [] [])) _) => true
  | _ => false

def pureC : MCode → Bool
  | .skip | .exit _ | .ret | .keep _ => true
  | .reg l => l.all pureI
  | .seq a b | .cond _ a b => pureC a && pureC b
  | .block _ b | .loop b | .scope b => pureC b
  | _ => false

def pureR : MRes → Bool
  | .t _ => true
  | _ => false

/-- A table of functions that leave the heap alone, inside another table. -/
def PureIn (T' T : Tab) : Prop := (∀ k, T'.en k = none) ∧ ∀ k mf, T'.fn k = some mf → T.fn k = some mf ∧ T.en k = none ∧ pureC mf.body = true ∧ mf.results.all pureR = true

abbrev s0 : St := ⟨[], 0⟩

/-- What the evaluator does with pure code in the empty state, it does in any. -/
def PureOK (T' T : Tab) (n : Nat) : Prop :=
  ∀ c e r, pureC c = true → exec T' n c e s0 = some r → r.2.2 = s0 ∧ ∀ st : St, st.Wf → exec T n c e st = some (r.1, r.2.1, st)

theorem pure_results {e : Env} {v : AV} {h h' : Heap} : ∀ {l : List MRes} {vs : List AV}, l.all pureR = true → resVals h e l = some vs → resVals h' e l = some vs
  | [], vs, _, hv => hv
  | .t n :: l, vs, hl, hv => by
    simp only [List.all_cons, Bool.and_eq_true] at hl
    simp only [resVals, resVal] at hv ⊢
    split at hv
    · rename_i v1 vs1 h1 h2
      cases h1
      rw [pure_results (v := v) hl.2 h2]
      exact hv
    · cases hv
  | .cell n s :: l, vs, hl, hv => by simp [pureR] at hl

theorem pure_call {n : Nat} (hin : PureIn T' T) (ih : PureOK T' T n) {k : Nat} {args : List AV} {r : AV × St} (h : evCall T' (exec T' n) (.fn k [] []) args s0 = some r) :
    r.2 = s0 ∧ ∀ st : St, st.Wf → evCall T (exec T n) (.fn k [] []) args st = some (r.1, st) := by
  simp only [evCall, evCallF, hin.1 k, List.nil_append, List.append_nil] at h ⊢
  split at h
  · cases h
  · rename_i mf hmf
    obtain ⟨h1, h2, h3, h4⟩ := hin.2 k mf hmf
    split at h
    case isFalse => cases h
    rename_i hl
    have key : ∀ x e' s, exec T' n mf.body (argEnv 0 args) s0 = some (x, e', s) → (x = .norm ∨ x = .ret) → (∀ v, fresults s.h e' mf.results = some v → r = (v, ⟨dropLoc s0.nx s.h, s.nx⟩) →
        r.2 = s0 ∧ ∀ st : St, st.Wf → (match T.en k with | some F => F args st | none => match T.fn k with | none => none | some mf => if args.length = mf.nargs then match exec T n mf.body (argEnv 0 args) st with
          | some (.norm, e', st') | some (.ret, e', st') => (match fresults st'.h e' mf.results with | some v => some (v, ⟨dropLoc st.nx st'.h, st'.nx⟩) | none => none) | _ => none else none) = some (r.1, st)) := by
      intro x e' s hx hxr v hv hr
      obtain ⟨g1, g2⟩ := ih _ _ _ h3 hx
      simp only at g1
      subst g1
      subst hr
      refine ⟨rfl, fun st hst => ?_⟩
      have g3 := g2 st hst
      simp only at g3
      have hd : dropLoc st.nx st.h = st.h := by
        rw [dropLoc_eq, locNames_nil (fun n o ho => hst.lt n o ho), hdrop_nil]
      have hfr : fresults st.h e' mf.results = some v := by
        unfold fresults at hv ⊢
        cases hq : resVals s0.h e' mf.results with
        | none => rw [hq] at hv; cases hv
        | some vs => rw [hq] at hv; rw [pure_results (v := v) h4 hq]; exact hv
      simp only [h1, h2]
      rw [if_pos hl, g3]
      rcases hxr with rfl | rfl <;> simp only [hfr, hd]
    split at h <;> rename_i hx
    · split at h <;> rename_i hv
      · cases h; exact key _ _ _ hx (.inl rfl) _ hv rfl
      · cases h
    · split at h <;> rename_i hv
      · cases h; exact key _ _ _ hx (.inr rfl) _ hv rfl
      · cases h
    · cases h

theorem pure_ops {n : Nat} (hin : PureIn T' T) (ih : PureOK T' T n) : ∀ {l : List MI} {e : Env} {r : Env × St}, l.all pureI = true → runOps (evCall T' (exec T' n)) l e s0 = some r →
    r.2 = s0 ∧ ∀ st : St, st.Wf → runOps (evCall T (exec T n)) l e st = some (r.1, st)
  | [], e, r, _, h => by cases h; exact ⟨rfl, fun _ _ => rfl⟩
  | i :: l, e, r, hl, h => by
    simp only [List.all_cons, Bool.and_eq_true] at hl
    obtain ⟨hi, hl⟩ := hl
    simp only [runOps] at h ⊢
    split at h
    case h_2 => cases h
    rename_i e1 st1 h1
    have one : st1 = s0 ∧ ∀ st : St, st.Wf → i.run (evCall T (exec T n)) e st = some (e1, st) := by
      obtain ⟨d, g, o⟩ := i
      unfold MI.run at h1 ⊢
      simp only at h1 ⊢
      split at h1
      · rename_i hw
        simp only [pureI] at hi
        cases o with
        | p o =>
          simp only [MO.run] at h1 ⊢
          split at h1
          · rename_i v1 st2 h2
            split at h2
            · rename_i v2 h3
              cases h2
              cases h1
              exact ⟨rfl, fun st _ => by simp⟩
            · cases h2
          · cases h1
        | w o =>
          cases o with
          | call f xs =>
            cases f with
            | k v =>
              cases v with
              | fn k a b =>
                cases a with
                | nil =>
                  cases b with
                  | nil =>
                    simp only [MO.run, WO.run, AO.ev] at h1 ⊢
                    split at h1
                    · rename_i v1 st2 h2
                      obtain ⟨g1, g2⟩ := pure_call hin ih h2
                      simp only at g1
                      subst g1
                      cases h1
                      refine ⟨rfl, fun st hst => ?_⟩
                      have g3 := g2 st hst
                      simp only at g3
                      simp only [g3]
                    · cases h1
                  | cons => simp at hi
                | cons => simp at hi
              | _ => simp at hi
            | t => simp at hi
          | _ => simp at hi
        | _ => simp at hi
      · rename_i hw
        cases h1
        exact ⟨rfl, fun st _ => by simp⟩
      · cases h1
    obtain ⟨rfl, one⟩ := one
    obtain ⟨g1, g2⟩ := pure_ops hin ih hl h
    exact ⟨g1, fun st hst => by simp only [one st hst]; exact g2 st hst⟩

theorem pure_ok (hin : PureIn T' T) : ∀ n, PureOK T' T n
  | 0 => fun c e r _ h => by cases h
  | n + 1 => by
    have ih := pure_ok hin n
    intro c e r hc h
    rw [exec_succ] at h
    have two : ∀ {a b : MCode}, pureC a = true → pureC b = true → (match exec T' n a e s0 with | some (.norm, e, st) => exec T' n b e st | r => r) = some r →
        r.2.2 = s0 ∧ ∀ st : St, st.Wf → (match exec T n a e st with | some (.norm, e, st) => exec T n b e st | r => r) = some (r.1, r.2.1, st) := by
      intro a b ha hb h
      split at h
      · rename_i e1 st1 h1
        obtain ⟨g1, g2⟩ := ih _ _ _ ha h1
        simp only at g1
        subst g1
        obtain ⟨k1, k2⟩ := ih _ _ _ hb h
        exact ⟨k1, fun st hst => by rw [g2 st hst]; exact k2 st hst⟩
      · rename_i hne
        obtain ⟨g1, g2⟩ := ih _ _ _ ha h
        refine ⟨g1, fun st hst => ?_⟩
        rw [g2 st hst]
        obtain ⟨x, e1, s1⟩ := r
        simp only at g1
        subst g1
        cases x with
        | norm => exact absurd h (hne _ _)
        | _ => rfl
    cases c with
    | skip => cases h; exact ⟨rfl, fun st _ => rfl⟩
    | exit i => cases h; exact ⟨rfl, fun st _ => rfl⟩
    | ret => cases h; exact ⟨rfl, fun st _ => rfl⟩
    | keep l => cases h; exact ⟨rfl, fun st _ => rfl⟩
    | reg l =>
      simp only [pureC] at hc
      simp only [evStep] at h
      split at h
      · rename_i e1 st1 h1
        obtain ⟨g1, g2⟩ := pure_ops hin ih hc h1
        cases h
        refine ⟨g1, fun st hst => ?_⟩
        rw [exec_succ]
        simp only [evStep, g2 st hst]
      · cases h
    | seq a b =>
      simp only [pureC, Bool.and_eq_true] at hc
      by_cases hk : ∃ l, a = .keep l
      · obtain ⟨l, rfl⟩ := hk
        simp only [evStep] at h
        obtain ⟨g1, g2⟩ := ih _ _ _ hc.2 h
        refine ⟨g1, fun st hst => ?_⟩
        rw [exec_succ]
        simp only [evStep]
        exact g2 st hst
      · have e1 : ∀ (T : Tab) (ex : ExF) st, evStep T ex (.seq a b) e st = (match ex a e st with | some (.norm, e, st) => ex b e st | r => r) := by
          intro T ex st
          cases a <;> first | rfl | exact absurd ⟨_, rfl⟩ hk
        rw [e1] at h
        obtain ⟨g1, g2⟩ := two hc.1 hc.2 h
        refine ⟨g1, fun st hst => ?_⟩
        rw [exec_succ, e1]
        exact g2 st hst
    | cond x a b =>
      simp only [pureC, Bool.and_eq_true] at hc
      simp only [evStep] at h
      split at h
      · rename_i hx
        obtain ⟨g1, g2⟩ := ih _ _ _ hc.1 h
        exact ⟨g1, fun st hst => by rw [exec_succ]; simp only [evStep, hx]; exact g2 st hst⟩
      · rename_i hx
        obtain ⟨g1, g2⟩ := ih _ _ _ hc.2 h
        exact ⟨g1, fun st hst => by rw [exec_succ]; simp only [evStep, hx]; exact g2 st hst⟩
      · cases h
    | block i b =>
      simp only [pureC] at hc
      simp only [evStep] at h
      split at h
      · rename_i i2 e2 st2 h1
        obtain ⟨g1, g2⟩ := ih _ _ _ hc h1
        simp only at g1
        subst g1
        split at h
        · rename_i hi
          cases h
          exact ⟨rfl, fun st hst => by rw [exec_succ]; simp only [evStep, g2 st hst]; rw [if_pos hi]⟩
        · rename_i hi
          cases h
          exact ⟨rfl, fun st hst => by rw [exec_succ]; simp only [evStep, g2 st hst]; rw [if_neg hi]⟩
      · rename_i hne
        obtain ⟨g1, g2⟩ := ih _ _ _ hc h
        refine ⟨g1, fun st hst => ?_⟩
        rw [exec_succ]
        simp only [evStep, g2 st hst]
        obtain ⟨x, e1, s1⟩ := r
        cases x with
        | exit i => exact absurd h (hne _ _ _)
        | _ => rfl
    | loop b =>
      simp only [pureC] at hc
      simp only [evStep] at h
      obtain ⟨g1, g2⟩ := two hc (b := .loop b) hc h
      refine ⟨g1, fun st hst => ?_⟩
      rw [exec_succ]
      simp only [evStep]
      exact g2 st hst
    | scope b =>
      simp only [pureC] at hc
      simp only [evStep] at h
      obtain ⟨g1, g2⟩ := ih _ _ _ hc h
      exact ⟨g1, fun st hst => by rw [exec_succ]; simp only [evStep]; exact g2 st hst⟩
    | rangeFunc => cases hc
    | rangeMap => cases hc
    | regd => cases hc
    | stuck => cases hc

/-- The kernel's word on a call in the empty state. -/
noncomputable def saysP (T' : Tab) (n : Nat) (mf : MFun) (args : List AV) (v : AV) : Bool :=
  pureC mf.body && mf.results.all pureR &&
  match exec T' n mf.body (argEnv 0 args) s0 with
  | some (.norm, e, s) | some (.ret, e, s) => (match fresults s.h e mf.results with | some u => avEq u v | none => false)
  | _ => false

theorem tells_pure {n k : Nat} {mf : MFun} (hin : PureIn T' T) (hen : T.en k = none) (hf : T.fn k = some mf) (hst : st.Wf) {args : List AV} {v : AV} (hl : args.length = mf.nargs) (hs : saysP T' n mf args v = true) :
    Tells T st (.fn k [] []) args v := by
  unfold saysP at hs
  simp only [Bool.and_eq_true] at hs
  obtain ⟨⟨h1, h2⟩, h3⟩ := hs
  refine tells_of hen hf (by simpa using hl) ?_
  simp only [List.nil_append, List.append_nil]
  have key : ∀ x e s, exec T' n mf.body (argEnv 0 args) s0 = some (x, e, s) → (x = .norm ∨ x = .ret) → (match fresults s.h e mf.results with | some u => avEq u v | none => false) = true →
      Res (run T mf.body (argEnv 0 args) st) fun x e s => (x = .norm ∨ x = .ret) ∧ fresults s.h e mf.results = some v ∧ Ext st s := by
    intro x e s hx hxr hv
    obtain ⟨g1, g2⟩ := pure_ok hin n _ _ _ h1 hx
    simp only at g1
    subst g1
    have g3 := run_iff.2 ⟨n, g2 st hst⟩
    rw [g3]
    refine ⟨hxr, ?_, .refl hst⟩
    split at hv
    · rename_i u hu
      have := avEq_eq hv
      subst this
      unfold fresults at hu ⊢
      cases hq : resVals s0.h e mf.results with
      | none => rw [hq] at hu; cases hu
      | some vs => rw [hq] at hu; rw [pure_results (v := u) h2 hq]; exact hu
    · cases hv
  split at h3 <;> rename_i hx
  · exact key _ _ _ hx (.inl rfl) h3
  · exact key _ _ _ hx (.inr rfl) h3
  · cases h3

/-- No function at all. -/
def T0 : Tab := ⟨fun _ => none, fun _ => none⟩
theorem pureIn0 : PureIn T0 T := ⟨fun _ => rfl, fun _ _ h => by cases h⟩
/-- One function. -/
def T1 (k : Nat) (m : MFun) : Tab := ⟨fun i => if i = k then some m else none, fun _ => none⟩
theorem pureIn1 {k : Nat} {m : MFun} (he : T.en k = none) (hf : T.fn k = some m) (hb : pureC m.body = true) (hr : m.results.all pureR = true) : PureIn (T1 k m) T := ⟨fun _ => rfl, fun i mf h => by
  simp only [T1] at h
  split at h
  · rename_i e; subst e; cases h; exact ⟨hf, he, hb, hr⟩
  · cases h⟩

/-- For each octet. -/
theorem all_octets {P : Nat → Bool} (h : (List.range 256).all P = true) (c : UInt8) : P c.toNat = true := List.all_eq_true.1 h _ (List.mem_range.2 c.toNat_lt)

end Go.Ev

/- An entry of the table out of a contract: a function of the library that is called. -/
namespace Go.Ev
open Go Go.RowKit
set_option linter.unusedVariables false

variable {X : Cx} {N : Nu} {D : ChkD}

theorem HR.below {h : Heap} {w w' : World} (hr : HR D X N h w) (b : Below w.heap.size w w') : HR D X N h w' :=
  ⟨fun n o ho => (hr.objs n o ho).keep (.refl N) b.size (fun a ha => b.block _ ((hr.objs n o ho).lt ha)), hr.sep⟩
theorem Gd.below {h : Heap} {w w' : World} (b : Below w.heap.size w w') : Gd N h w N h w' :=
  ⟨.refl N, b.size, b.tape, b.os, b.output, fun k hk _ => b.block k hk, fun n o a h1 h2 => .inl ⟨n, o, a, h1, h2, rfl, id⟩⟩

/-- The function is there, with a body, and none of the two that are met by name. -/
def bodyB (P : Program) (f : FuncId) : Bool :=
  match P.funcs[f]? with
  | some fn => fn.body.isSome && !(fn.name == "runtime.NumGoroutine")
  | none => false

theorem callsTo_of_calls {P : Program} {f : FuncId} {us : Array Value} {w w' : World} {u : Value} {c : Frame} {cs : List Frame} (hb : bodyB P f = true)
    (h : ∃ fr, Comes P (lone (Frame.enter P f us .normal) (c :: cs) w) (lone fr (c :: cs) w') (.returned u) ∧ fr.leaving P w' (.returned u)) : CallsTo P (callFunc f us) w c cs u w' := by
  unfold bodyB at hb
  split at hb
  case h_2 => cases hb
  rename_i fn hf
  simp only [Bool.and_eq_true, Bool.not_eq_true'] at hb
  obtain ⟨body, hbody⟩ := Option.isSome_iff_exists.1 hb.1
  obtain ⟨fr, h1, h2⟩ := h
  have hcf : (callFunc f us).run P w = .ok (.enter f us) w := by
    have hname' : ¬ fn.name = "runtime.NumGoroutine" := by simpa using hb.2
    simp [callFunc, hf, hname', hbody]
  refine ⟨.enter f us, w, hcf, .inr (.inl ⟨_, _, rfl, ?_⟩)⟩
  exact Steps.trans h1 (.one (step_leave_returned h2))

/-- A contract of the shelf's kind makes an entry. -/
theorem entry_of_calls {f : Nat} {F : Entry} (hb : bodyB X.P (X.φ f) = true)
    (h : ∀ args st v st', F args st = some (v, st') → st' = st ∧ ∀ N us, VRs X N args us → ∃ u, VR X N v u ∧ ∀ w, Calls X.P (X.φ f) us.toArray w fun e w' => e = .returned u ∧ Below w.heap.size w w') : EntryOK D X f F := by
  intro args st v st' hF N w us hr hv c cs
  obtain ⟨rfl, h1⟩ := h args st v st' hF
  obtain ⟨u, hu, h2⟩ := h1 N us hv
  obtain ⟨e, w', fr, ⟨rfl, hbel⟩, hc, _, hl⟩ := h2 w (c :: cs)
  exact ⟨N, u, w', hu, ⟨hr.hr.below hbel, hr.fresh⟩, Gd.below hbel, Nat.le_refl _, fun _ _ => rfl, callsTo_of_calls hb ⟨fr, hc, hl⟩⟩

end Go.Ev

/- strings.Repeat as an entry of the table. -/
namespace Go.Ev
open Go Go.RowKit
set_option linter.unusedVariables false

variable {X : Cx} {D : ChkD} {T : Tab} {st : St}

def repeatE : Entry := fun args st => match args with
  | [.str s, .int .i64 n] => if 0 ≤ n ∧ n ≤ 9223372036854775807 ∧ s.length * n.toNat ≤ 140737488355328 then some (.str (Lib.repeatL s n.toNat), st) else none
  | _ => none

theorem repeat_entry {f : Nat} (hb : bodyB X.P (X.φ f) = true)
    (h : ∀ (s : ByteArray) (c : Nat) (w : World), c ≤ 9223372036854775807 → s.size * c ≤ 140737488355328 → Calls X.P (X.φ f) #[.string s, .int .i64 c] w fun e w' => e = .returned (.string ⟨(Lib.repeatL s.data.toList c).toArray⟩) ∧ Below w.heap.size w w') : EntryOK D X f repeatE := by
  refine entry_of_calls hb fun args st v st' hF => ?_
  unfold repeatE at hF
  split at hF
  case h_2 => cases hF
  rename_i s n
  split at hF
  case isFalse => cases hF
  rename_i hc
  simp only [Option.some.injEq, Prod.mk.injEq] at hF
  obtain ⟨rfl, rfl⟩ := hF
  refine ⟨rfl, fun N us hus => ?_⟩
  obtain ⟨u0, us0, rfl, h0, u1, us1, rfl, h1, rfl⟩ := hus
  obtain ⟨c, rfl⟩ := Int.eq_ofNat_of_zero_le hc.1
  cases h0
  cases h1
  refine ⟨_, rfl, fun w => ?_⟩
  have := h ⟨s.toArray⟩ c w (by omega) (by show s.toArray.size * c ≤ _; simpa using hc.2.2)
  simpa using this

theorem call_entry {k : Nat} {F : Entry} (h : T.en k = some F) {first args cap : List AV} : call T (.fn k first cap) args st = F (first ++ args ++ cap) st := by
  simp only [call, evCall, evCallF, h]

theorem repeat_call (h : T.en 13 = some repeatE) {s : List UInt8} {n : Nat} (h1 : n ≤ 9223372036854775807) (h2 : s.length * n ≤ 140737488355328) :
    call T (.fn 13 [] []) [.str s, .int .i64 n] st = some (.str (Lib.repeatL s n), st) := by
  rw [call_entry h]
  simp only [List.nil_append, List.append_nil, repeatE]
  rw [if_pos ⟨by omega, by omega, by simpa using h2⟩]
  simp

end Go.Ev

/- Functions of the library as entries of the table: what each answers, and how a contract or a plain run makes the entry. -/
namespace Go.Ev
open Go Go.RowKit
set_option linter.unusedVariables false

variable {X : Cx} {D : ChkD} {T : Tab} {st : St}

/-- An entry of the machine's own, that leaves the world alone. -/
theorem entry_of_extern {f : Nat} {F : Entry} {fn : Func} {e : Array Value → Sem Value} (hf : X.P.funcs[X.φ f]? = some fn) (hname : (fn.name == "runtime.NumGoroutine") = false) (hb : fn.body.isNone = true)
    (hn : Extern.findNext fn = none) (he : Extern.find fn = some e)
    (h : ∀ args st v st', F args st = some (v, st') → st' = st ∧ ∀ N us, VRs X N args us → ∃ u, VR X N v u ∧ ∀ w, (e us.toArray).run X.P w = .ok u w) : EntryOK D X f F := by
  intro args st v st' hF N w us hr hv c cs
  obtain ⟨rfl, h1⟩ := h args st v st' hF
  obtain ⟨u, hu, h2⟩ := h1 N us hv
  have h3 := run_callFunc_extern hf hname hb hn he us.toArray w
  rw [h2 w] at h3
  exact ⟨N, u, w, hu, hr, .refl _ _ _, Nat.le_refl _, fun _ _ => rfl, .value u, w, h3, .inl ⟨rfl, rfl⟩⟩

namespace B
/-- A pointer as it is. -/
def E_abi_NoEscape : Entry := fun args st => match args with
  | [.ptr n o] => some (.ptr n o, st)
  | _ => none
def E_strings_IndexByte : Entry := fun args st => match args with
  | [.str s, .int .u8 c] => some (.int .i64 (Lib.indexByte s c.toNat.toUInt8), st)
  | _ => none
def E_bytealg_IndexByteString : Entry := E_strings_IndexByte
/-- Only for one octet that is looked for. -/
def E_stringslite_Index : Entry := fun args st => match args with
  | [.str s, .str [c]] => some (.int .i64 (Lib.indexByte s c), st)
  | _ => none
def E_strings_Repeat : Entry := repeatE
/-- Only for ASCII text. -/
def E_strings_ToLower : Entry := fun args st => match args with
  | [.str s] => if s.length ≤ 140737488355328 ∧ s.all (fun b => decide (b.toNat < 128)) = true then some (.str (Lib.toLowerA s), st) else none
  | _ => none
/-- The number of the table of powers of ten that strconv reads. -/
def gPow10 : Nat := 4
def av64 : AV → Option Int
  | .int .u64 n => some n
  | _ => none
/-- The table of powers of ten is among the objects. -/
def hasPow (h : Heap) : Bool := h.any fun p => match hget h p.1 with
  | some (.glob g cs) => decide (g = gPow10) && decide (cs.map av64 = Lib.pow10Tab.map some)
  | _ => false
def E_strconv_Itoa : Entry := fun args st => match args with
  | [.int .i64 n] => if hasPow st.h = true ∧ -9223372036854775808 ≤ n ∧ n ≤ 9223372036854775807 then some (.str (Lib.itoa n), st) else none
  | _ => none
end B

theorem noescape_entry {f : Nat} {fn : Func} (hf : X.P.funcs[X.φ f]? = some fn) (hname : (fn.name == "runtime.NumGoroutine") = false) (hb : fn.body.isNone = true)
    (hn : Extern.findNext fn = none) (he : Extern.find fn = some Extern.AbiNoEscape.same) : EntryOK D X f B.E_abi_NoEscape := by
  refine entry_of_extern hf hname hb hn he fun args st v st' hF => ?_
  unfold B.E_abi_NoEscape at hF
  split at hF
  case h_2 => cases hF
  cases hF
  refine ⟨rfl, fun N us hus => ?_⟩
  obtain ⟨u0, us0, rfl, h0, rfl⟩ := hus
  exact ⟨u0, h0, fun w => rfl⟩

theorem indexByteString_entry {f : Nat} {fn : Func} (hf : X.P.funcs[X.φ f]? = some fn) (hname : (fn.name == "runtime.NumGoroutine") = false) (hb : fn.body.isNone = true)
    (hn : Extern.findNext fn = none) (he : Extern.find fn = some Extern.BytealgIndexByte.indexByte) : EntryOK D X f B.E_bytealg_IndexByteString := by
  refine entry_of_extern hf hname hb hn he fun args st v st' hF => ?_
  unfold B.E_bytealg_IndexByteString B.E_strings_IndexByte at hF
  split at hF
  case h_2 => cases hF
  cases hF
  refine ⟨rfl, fun N us hus => ?_⟩
  obtain ⟨u0, us0, rfl, h0, u1, us1, rfl, h1, rfl⟩ := hus
  cases h0
  cases h1
  exact ⟨_, rfl, fun w => by simpa using Lib.run_indexByteString (P := X.P) ⟨_⟩ _ w⟩

theorem indexByte_entry {f : Nat} (hb : bodyB X.P (X.φ f) = true)
    (h : ∀ (s : ByteArray) (c : Int) (w : World), Calls X.P (X.φ f) #[.string s, .int .u8 c] w fun e w' => e = .returned (.int .i64 (Lib.indexByte s.data.toList c.toNat.toUInt8)) ∧ w' = w) : EntryOK D X f B.E_strings_IndexByte := by
  refine entry_of_calls hb fun args st v st' hF => ?_
  unfold B.E_strings_IndexByte at hF
  split at hF
  case h_2 => cases hF
  cases hF
  refine ⟨rfl, fun N us hus => ?_⟩
  obtain ⟨u0, us0, rfl, h0, u1, us1, rfl, h1, rfl⟩ := hus
  cases h0
  cases h1
  refine ⟨_, rfl, fun w => ?_⟩
  refine (h ⟨_⟩ _ w).mono fun e w' ⟨h1, h2⟩ => ⟨by simpa using h1, ?_⟩
  subst h2
  exact Below.refl _ _

theorem index1_entry {f : Nat} (hb : bodyB X.P (X.φ f) = true)
    (h : ∀ (s : ByteArray) (c : UInt8) (w : World), Calls X.P (X.φ f) #[.string s, .string ⟨#[c]⟩] w fun e w' => e = .returned (.int .i64 (Lib.indexByte s.data.toList c)) ∧ w' = w) : EntryOK D X f B.E_stringslite_Index := by
  refine entry_of_calls hb fun args st v st' hF => ?_
  unfold B.E_stringslite_Index at hF
  split at hF
  case h_2 => cases hF
  cases hF
  refine ⟨rfl, fun N us hus => ?_⟩
  obtain ⟨u0, us0, rfl, h0, u1, us1, rfl, h1, rfl⟩ := hus
  cases h0
  cases h1
  refine ⟨_, rfl, fun w => ?_⟩
  refine (h ⟨_⟩ _ w).mono fun e w' ⟨h1, h2⟩ => ⟨by simpa using h1, ?_⟩
  subst h2
  exact Below.refl _ _

theorem toLower_entry {f : Nat} (hb : bodyB X.P (X.φ f) = true)
    (h : ∀ (s : ByteArray) (w : World), s.size ≤ 140737488355328 → (∀ (j : Nat) (b : UInt8), s.data.toList[j]? = some b → b.toNat < 128) → Calls X.P (X.φ f) #[.string s] w fun e w' => e = .returned (.string ⟨(Lib.toLowerA s.data.toList).toArray⟩) ∧ Below w.heap.size w w') : EntryOK D X f B.E_strings_ToLower := by
  refine entry_of_calls hb fun args st v st' hF => ?_
  unfold B.E_strings_ToLower at hF
  split at hF
  case h_2 => cases hF
  split at hF
  case isFalse => cases hF
  rename_i hc
  cases hF
  refine ⟨rfl, fun N us hus => ?_⟩
  obtain ⟨u0, us0, rfl, h0, rfl⟩ := hus
  cases h0
  refine ⟨_, rfl, fun w => ?_⟩
  refine (h ⟨_⟩ w (by simpa [ByteArray.size] using hc.1) (fun j b hj => ?_)).mono fun e w' ⟨h1, h2⟩ => ⟨by simpa using h1, h2⟩
  have := List.all_eq_true.1 hc.2 b (List.mem_of_getElem? hj)
  simpa using this

/-- A contract makes an entry, where the heap is known too. -/
theorem entry_of_calls2 {f : Nat} {F : Entry} (hb : bodyB X.P (X.φ f) = true)
    (h : ∀ args st v st', F args st = some (v, st') → st' = st ∧ ∀ N us w, HR D X N st.h w → VRs X N args us → ∃ u, VR X N v u ∧ Calls X.P (X.φ f) us.toArray w fun e w' => e = .returned u ∧ Below w.heap.size w w') : EntryOK D X f F := by
  intro args st v st' hF N w us hr hv c cs
  obtain ⟨rfl, h1⟩ := h args st v st' hF
  obtain ⟨u, hu, h2⟩ := h1 N us w hr.hr hv
  obtain ⟨e, w', fr, ⟨rfl, hbel⟩, hc, _, hl⟩ := h2 (c :: cs)
  exact ⟨N, u, w', hu, ⟨hr.hr.below hbel, hr.fresh⟩, Gd.below hbel, Nat.le_refl _, fun _ _ => rfl, callsTo_of_calls hb ⟨fr, hc, hl⟩⟩

theorem vrs_u64 {N : Nu} : ∀ {zs : List Int} {cs : List AV} {us : List Value}, cs.map B.av64 = zs.map some → VRs X N cs us → us = zs.map fun z => Value.int .u64 z
  | [], [], us, _, h => h
  | [], _ :: _, us, e, h => by simp at e
  | _ :: _, [], us, e, h => by simp at e
  | z :: zs, c :: cs, us, e, h => by
    simp only [List.map_cons, List.cons.injEq] at e
    obtain ⟨u, us, rfl, h0, h1⟩ := h
    have hc : c = .int .u64 z := by
      have := e.1
      unfold B.av64 at this
      split at this
      · cases this; rfl
      · cases this
    subst hc
    cases h0
    rw [vrs_u64 e.2 h1]; rfl

theorem hasPow_of {h : Heap} {m : Nat} {cs : List AV} (hg : hget h m = some (.glob B.gPow10 cs)) (hc : cs.map B.av64 = Lib.pow10Tab.map some) : B.hasPow h = true := by
  unfold B.hasPow
  rw [List.any_eq_true]
  exact ⟨_, hget_mem hg, by simp only [hg]; simp [hc]⟩

theorem itoa_entry {f : Nat} (hb : bodyB X.P (X.φ f) = true) (hname : X.P.globalNamed "internal/strconv.uint64pow10" = some (X.γ B.gPow10))
    (h : ∀ (n : Int) (w : World), -9223372036854775808 ≤ n → n ≤ 9223372036854775807 → Lib.TabIs X.P w "internal/strconv.uint64pow10" .u64 Lib.pow10Tab → Calls X.P (X.φ f) #[.int .i64 n] w fun e w' => e = .returned (.string ⟨(Lib.itoa n).toArray⟩) ∧ Below w.heap.size w w') : EntryOK D X f B.E_strconv_Itoa := by
  refine entry_of_calls2 hb fun args st v st' hF => ?_
  unfold B.E_strconv_Itoa at hF
  split at hF
  case h_2 => cases hF
  split at hF
  case isFalse => cases hF
  rename_i hc
  cases hF
  refine ⟨rfl, fun N us w hr hus => ?_⟩
  obtain ⟨u0, us0, rfl, h0, rfl⟩ := hus
  cases h0
  refine ⟨_, rfl, h _ w hc.2.1 hc.2.2 ?_⟩
  have hp := hc.1
  unfold B.hasPow at hp
  rw [List.any_eq_true] at hp
  obtain ⟨p, _, hp⟩ := hp
  split at hp
  case h_2 => cases hp
  rename_i g cs hg
  simp only [Bool.and_eq_true, decide_eq_true_eq] at hp
  obtain ⟨rfl, hcs⟩ := hp
  obtain ⟨us, t, fz, _, hw, hv⟩ := hr.objs _ _ hg
  have := vrs_u64 hcs hv
  unfold Lib.TabIs World.var?
  rw [hname]
  simp only [Option.bind_some, hw]
  rw [← this]

end Go.Ev
