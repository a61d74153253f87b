/- The evaluator without fuel: what it comes to, and its equations. -/
import Derived.Test.YtcjbjemfobdkgaaGreatDoorP03
import Derived.KernelRfl
import Derived.Lib.Repeat
import Derived.Lib.Bytealg
import Derived.Laws.Externs
import Derived.Lib.LaidTab
import Derived.Lib.ItoaNum
import Derived.Lib.Case
import Derived.Lib.RuneBytes
import Derived.Lib.IndexLaws
import Derived.Laws.RangeAny
import Derived.Lib.SmallJoins
import Derived.Deep.Slices
import Derived.OpenShut
import Derived.Stop.LaidErr
import Derived.SizedLaws
import Derived.Lib.Join
namespace Go.Ev
open Go
set_option linter.unusedSimpArgs false
set_option linter.unusedVariables false

def ELe (f g : ExF) : Prop := ∀ c e st r, f c e st = some r → g c e st = some r
def CLe (f g : CallF) : Prop := ∀ a args st r, f a args st = some r → g a args st = some r

theorem WO.mono {f g : CallF} (h : CLe f g) {ev : AO → AV} {st : St} {o : WO} {r : AV × St} (hr : WO.run f ev st o = some r) : WO.run g ev st o = some r := by
  cases o with
  | call x xs => exact h _ _ _ _ hr
  | _ => exact hr

theorem MO.mono {f g : CallF} (h : CLe f g) {ev : AO → AV} {st : St} {o : MO} {r : AV × St} (hr : MO.run f ev st o = some r) : MO.run g ev st o = some r := by
  cases o with
  | w p => exact WO.mono h hr
  | _ => exact hr

theorem MI.mono {f g : CallF} (h : CLe f g) {o : MI} {e : Env} {st : St} {r : Env × St} (hr : o.run f e st = some r) : o.run g e st = some r := by
  unfold MI.run at hr ⊢
  split at hr <;> rename_i hw
  · split at hr <;> rename_i h1
    · rw [MO.mono h h1]; exact hr
    · cases hr
  · exact hr
  · cases hr

theorem runOps_mono {f g : CallF} (h : CLe f g) : ∀ {l : List MI} {e : Env} {st : St} {r : Env × St}, runOps f l e st = some r → runOps g l e st = some r
  | [], _, _, _, hr => hr
  | o :: l, e, st, r, hr => by
    simp only [runOps] at hr ⊢
    split at hr <;> rename_i h1
    · rw [MI.mono h h1]; exact runOps_mono h hr
    · cases hr

theorem runI_mono {f g : CallF} (h : CLe f g) {nm : Nat} {o : MI} {e : Env} {st : St} {r : Env × St × Nat} (hr : runI f nm o e st = some r) : runI g nm o e st = some r := by
  unfold runI at hr ⊢
  split at hr <;> rename_i hw
  · split at hr
    · exact hr
    · split at hr <;> rename_i h1
      · rw [MO.mono h h1]; exact hr
      · cases hr
  · exact hr
  · cases hr

theorem runR_mono {f g : CallF} (h : CLe f g) : ∀ {l : List RI} {d : List (Nat × MI)} {nm : Nat} {e : Env} {st : St} {r : Env × St}, runR f d nm l e st = some r → runR g d nm l e st = some r
  | [], _, _, _, _, _, hr => hr
  | .op i o :: l, d, nm, e, st, r, hr => by
    simp only [runR] at hr ⊢
    split at hr <;> rename_i h1
    · rw [runI_mono h h1]; exact runR_mono h hr
    · cases hr
  | .re i :: l, d, nm, e, st, r, hr => by
    simp only [runR] at hr ⊢
    split at hr
    · rename_i h1; rw [if_pos h1]; exact runR_mono h hr
    · cases hr

theorem evCallF_mono {T : Tab} {f g : ExF} (h : ELe f g) {k : Nat} {args : List AV} {st : St} {r : AV × St} (hr : evCallF T f k args st = some r) : evCallF T g k args st = some r := by
  unfold evCallF at hr ⊢
  split at hr
  · exact hr
  · split at hr
    · cases hr
    · split at hr
      · rename_i hl
        rw [if_pos hl]
        split at hr <;> rename_i h1
        · rw [h _ _ _ _ h1]; exact hr
        · rw [h _ _ _ _ h1]; exact hr
        · cases hr
      · cases hr

theorem evYield_mono {f g : ExF} (h : ELe f g) {l : Nat} {args : List AV} {st : St} {r : AV × St} (hr : evYield f l args st = some r) : evYield g l args st = some r := by
  unfold evYield at hr ⊢
  split at hr
  · split at hr
    · rename_i hl
      rw [if_pos hl]
      split at hr <;> rename_i h1
      · rw [h _ _ _ _ h1]
        simp only
        split at hr <;> rename_i h2
        · split at hr <;> rename_i h3
          · rw [h _ _ _ _ h3]; exact hr
          · cases hr
        · cases hr
      · cases hr
    · cases hr
  · cases hr

theorem evCall_mono {T : Tab} {f g : ExF} (h : ELe f g) : CLe (evCall T f) (evCall T g) := by
  intro a args st r hr
  unfold evCall at hr ⊢
  split at hr
  · exact evCallF_mono h hr
  · exact evYield_mono h hr
  · cases hr

theorem rounds_mono {f g : CallF} (hf : CLe f g) {ex ey : ExF} (hx : ELe ex ey) {nx more pair : Nat} {post : List MI} {ks : List Nat} {body : MCode} {e : Env} {st : St} :
    ∀ {es : List (AV × AV)} {u : Unit}, rounds f ex nx more pair post ks body e st es = some u → rounds g ey nx more pair post ks body e st es = some u
  | [], _, h => h
  | (k, v) :: r, u, h => by
    simp only [rounds] at h ⊢
    split at h
    case h_2 => cases h
    rename_i h1
    rw [runOps_mono hf h1]
    simp only
    split at h
    case h_2 => cases h
    rename_i h2
    rw [hx _ _ _ _ h2]
    simp only
    split at h
    case isFalse => cases h
    rename_i h3
    rw [if_pos h3]
    exact rounds_mono hf hx h

theorem evStep_mono {T : Tab} {f g : ExF} (h : ELe f g) : ELe (evStep T f) (evStep T g) := by
  have hc := evCall_mono (T := T) h
  intro c e st r hr
  cases c with
  | skip => exact hr
  | reg l =>
    simp only [evStep] at hr ⊢
    split at hr <;> rename_i h1
    · rw [runOps_mono hc h1]; exact hr
    · cases hr
  | regd l =>
    simp only [evStep] at hr ⊢
    split at hr <;> rename_i h1
    · rw [runR_mono hc h1]; exact hr
    · cases hr
  | seq a b =>
    by_cases hk : ∃ l, a = .keep l
    · obtain ⟨l, rfl⟩ := hk
      simp only [evStep] at hr ⊢
      exact h _ _ _ _ hr
    · have e1 : ∀ ex : ExF, evStep T ex (.seq a b) e st = (match ex a e st with | some (.norm, e, st) => ex b e st | r => r) := by
        intro ex
        cases a <;> first | rfl | exact absurd ⟨_, rfl⟩ hk
      rw [e1] at hr ⊢
      split at hr <;> rename_i h1
      · rw [h _ _ _ _ h1]; exact h _ _ _ _ hr
      · rw [h _ _ _ _ hr]
        split
        · rename_i e2 st2 heq
          exact absurd hr (by rw [heq]; exact h1 e2 st2)
        · rfl
  | cond x a b =>
    simp only [evStep] at hr ⊢
    split at hr
    · exact h _ _ _ _ hr
    · exact h _ _ _ _ hr
    · cases hr
  | block i b =>
    simp only [evStep] at hr ⊢
    split at hr <;> rename_i h1
    · rw [h _ _ _ _ h1]; exact hr
    · rw [h _ _ _ _ hr]
      split
      · rename_i i2 e2 st2 heq
        exact absurd hr (by rw [heq]; exact h1 i2 e2 st2)
      · rfl
  | loop b =>
    simp only [evStep] at hr ⊢
    split at hr <;> rename_i h1
    · rw [h _ _ _ _ h1]; exact h _ _ _ _ hr
    · rw [h _ _ _ _ hr]
      split
      · rename_i e2 st2 heq
        exact absurd hr (by rw [heq]; exact h1 e2 st2)
      · rfl
  | scope b => simp only [evStep] at hr ⊢; exact h _ _ _ _ hr
  | rangeFunc f ps a b =>
    simp only [evStep] at hr ⊢
    split at hr <;> rename_i h1
    · rw [hc _ _ _ _ h1]; exact hr
    · cases hr
  | exit i => exact hr
  | ret => exact hr
  | keep l => exact hr
  | rangeMap pre m d nx more pair post ks out next body =>
    simp only [evStep] at hr ⊢
    split at hr
    case h_2 => cases hr
    rename_i h1
    simp only [runOps_mono hc h1]
    split at hr
    case h_2 => cases hr
    rename_i h2
    split at hr
    case h_2 => cases hr
    rename_i h3
    split at hr
    case h_2 => cases hr
    rename_i h4
    rw [rounds_mono hc h h4]
    exact hr
  | stuck => exact hr

theorem exec_mono_succ (T : Tab) : ∀ n, ELe (exec T n) (exec T (n + 1))
  | 0 => fun _ _ _ _ h => by cases h
  | n + 1 => evStep_mono (exec_mono_succ T n)

theorem exec_mono (T : Tab) {n m : Nat} (h : n ≤ m) : ELe (exec T n) (exec T m) := by
  induction h with
  | refl => exact fun _ _ _ _ h => h
  | step _ ih => exact fun c e st r hr => exec_mono_succ T _ c e st r (ih c e st r hr)

open Classical in
/-- What the code comes to. -/
noncomputable def run (T : Tab) (c : MCode) (e : Env) (st : St) : Option (Ex × Env × St) :=
  if h : ∃ n r, exec T n c e st = some r then exec T h.choose c e st else none

theorem run_iff {T : Tab} {c : MCode} {e : Env} {st : St} {r : Ex × Env × St} : run T c e st = some r ↔ ∃ n, exec T n c e st = some r := by
  unfold run
  constructor
  · intro h
    split at h
    · exact ⟨_, h⟩
    · cases h
  · rintro ⟨n, hn⟩
    have h : ∃ n r, exec T n c e st = some r := ⟨n, r, hn⟩
    rw [dif_pos h]
    obtain ⟨r', hr'⟩ := h.choose_spec
    have h1 := exec_mono T (Nat.le_max_left n h.choose) _ _ _ _ hn
    have h2 := exec_mono T (Nat.le_max_right n h.choose) _ _ _ _ hr'
    rw [h1] at h2
    rw [hr', h2]

theorem exec_le_run (T : Tab) (n : Nat) : ELe (exec T n) (run T) := fun _ _ _ _ h => run_iff.2 ⟨n, h⟩

/-- A call, without fuel. -/
noncomputable def call (T : Tab) : CallF := evCall T (run T)

theorem call_cont {T : Tab} {a : AV} {args : List AV} {st : St} {r : AV × St} (h : call T a args st = some r) : ∃ n, evCall T (exec T n) a args st = some r := by
  unfold call evCall at h
  split at h
  · rename_i f first cap
    simp only [evCall]
    unfold evCallF at h ⊢
    split at h
    · exact ⟨0, h⟩
    · split at h
      · cases h
      · split at h
        · rename_i hl
          split at h <;> rename_i h1
          · obtain ⟨n, hn⟩ := run_iff.1 h1
            exact ⟨n, by rw [if_pos hl, hn]; exact h⟩
          · obtain ⟨n, hn⟩ := run_iff.1 h1
            exact ⟨n, by rw [if_pos hl, hn]; exact h⟩
          · cases h
        · cases h
  · rename_i l
    simp only [evCall]
    unfold evYield at h ⊢
    split at h
    · split at h
      · rename_i hl
        split at h <;> rename_i h1
        · split at h <;> rename_i h2
          · split at h <;> rename_i h3
            · obtain ⟨n, hn⟩ := run_iff.1 h1
              obtain ⟨m, hm⟩ := run_iff.1 h3
              refine ⟨max n m, ?_⟩
              rw [if_pos hl, exec_mono T (Nat.le_max_left n m) _ _ _ _ hn]
              simp only
              rw [h2]
              simp only
              rw [exec_mono T (Nat.le_max_right n m) _ _ _ _ hm]
              exact h
            · cases h
          · cases h
        · cases h
      · cases h
    · cases h
  · cases h

theorem MO_cont {T : Tab} {ev : AO → AV} {st : St} {o : MO} {r : AV × St} (h : MO.run (call T) ev st o = some r) : ∃ n, MO.run (evCall T (exec T n)) ev st o = some r := by
  cases o with
  | w p =>
    cases p with
    | call f xs => exact call_cont h
    | _ => exact ⟨0, h⟩
  | _ => exact ⟨0, h⟩

theorem MI_cont {T : Tab} {o : MI} {e : Env} {st : St} {r : Env × St} (h : o.run (call T) e st = some r) : ∃ n, o.run (evCall T (exec T n)) e st = some r := by
  unfold MI.run at h ⊢
  split at h
  · split at h <;> rename_i h1
    · obtain ⟨n, hn⟩ := MO_cont h1
      exact ⟨n, by rw [hn]; exact h⟩
    · cases h
  · exact ⟨0, h⟩
  · cases h

theorem callx_le (T : Tab) {n m : Nat} (h : n ≤ m) : CLe (evCall T (exec T n)) (evCall T (exec T m)) := evCall_mono (exec_mono T h)

theorem runOps_cont {T : Tab} : ∀ {l : List MI} {e : Env} {st : St} {r : Env × St}, runOps (call T) l e st = some r → ∃ n, runOps (evCall T (exec T n)) l e st = some r
  | [], _, _, _, h => ⟨0, h⟩
  | o :: l, e, st, r, h => by
    simp only [runOps] at h ⊢
    split at h <;> rename_i h1
    · obtain ⟨n, hn⟩ := MI_cont h1
      obtain ⟨m, hm⟩ := runOps_cont h
      exact ⟨max n m, by rw [MI.mono (callx_le T (Nat.le_max_left n m)) hn]; exact runOps_mono (callx_le T (Nat.le_max_right n m)) hm⟩
    · cases h

theorem runI_cont {T : Tab} {nm : Nat} {o : MI} {e : Env} {st : St} {r : Env × St × Nat} (h : runI (call T) nm o e st = some r) : ∃ n, runI (evCall T (exec T n)) nm o e st = some r := by
  unfold runI at h ⊢
  split at h
  · split at h
    · exact ⟨0, h⟩
    · split at h <;> rename_i h1
      · obtain ⟨n, hn⟩ := MO_cont h1
        exact ⟨n, by rw [hn]; exact h⟩
      · cases h
  · exact ⟨0, h⟩
  · cases h

theorem runR_cont {T : Tab} : ∀ {l : List RI} {d : List (Nat × MI)} {nm : Nat} {e : Env} {st : St} {r : Env × St}, runR (call T) d nm l e st = some r → ∃ n, runR (evCall T (exec T n)) d nm l e st = some r
  | [], _, _, _, _, _, h => ⟨0, h⟩
  | .op i o :: l, d, nm, e, st, r, h => by
    simp only [runR] at h ⊢
    split at h <;> rename_i h1
    · obtain ⟨n, hn⟩ := runI_cont h1
      obtain ⟨m, hm⟩ := runR_cont h
      exact ⟨max n m, by rw [runI_mono (callx_le T (Nat.le_max_left n m)) hn]; exact runR_mono (callx_le T (Nat.le_max_right n m)) hm⟩
    · cases h
  | .re i :: l, d, nm, e, st, r, h => by
    simp only [runR] at h ⊢
    split at h
    · rename_i h1
      obtain ⟨m, hm⟩ := runR_cont h
      exact ⟨m, by rw [if_pos h1]; exact hm⟩
    · cases h

theorem rounds_cont {T : Tab} {nx more pair : Nat} {post : List MI} {ks : List Nat} {body : MCode} {e : Env} {st : St} :
    ∀ {es : List (AV × AV)} {u : Unit}, rounds (call T) (run T) nx more pair post ks body e st es = some u → ∃ n, rounds (evCall T (exec T n)) (exec T n) nx more pair post ks body e st es = some u
  | [], _, h => ⟨0, h⟩
  | (k, v) :: r, u, h => by
    simp only [rounds] at h
    split at h
    case h_2 => cases h
    rename_i h1
    split at h
    case h_2 => cases h
    rename_i h2
    split at h
    case isFalse => cases h
    rename_i h3
    obtain ⟨a, ha⟩ := runOps_cont h1
    obtain ⟨b, hb⟩ := run_iff.1 h2
    obtain ⟨c, hc⟩ := rounds_cont h
    refine ⟨max a (max b c), ?_⟩
    simp only [rounds]
    rw [runOps_mono (callx_le T (Nat.le_max_left a _)) ha]
    simp only
    rw [exec_mono T (Nat.le_trans (Nat.le_max_left b c) (Nat.le_max_right a _)) _ _ _ _ hb]
    simp only
    rw [if_pos h3]
    have hbc := Nat.le_trans (Nat.le_max_right b c) (Nat.le_max_right a _)
    exact rounds_mono (callx_le T hbc) (exec_mono T hbc) hc

/-- The evaluator's one equation. -/
theorem run_eq (T : Tab) (c : MCode) (e : Env) (st : St) : run T c e st = evStep T (run T) c e st := by
  have fwd : ∀ r, run T c e st = some r → evStep T (run T) c e st = some r := by
    intro r h
    obtain ⟨n, hn⟩ := run_iff.1 h
    cases n with
    | zero => cases hn
    | succ n => exact evStep_mono (exec_le_run T n) _ _ _ _ hn
  have bwd : ∀ r, evStep T (run T) c e st = some r → run T c e st = some r := by
    intro r h
    suffices hs : ∃ n, evStep T (exec T n) c e st = some r by
      obtain ⟨n, hn⟩ := hs
      exact run_iff.2 ⟨n + 1, hn⟩
    have one : ∀ {c' e' st' r'}, run T c' e' st' = some r' → ∃ n, ∀ m, n ≤ m → exec T m c' e' st' = some r' := by
      intro c' e' st' r' h'
      obtain ⟨n, hn⟩ := run_iff.1 h'
      exact ⟨n, fun m hm => exec_mono T hm _ _ _ _ hn⟩
    cases c with
    | skip => exact ⟨0, h⟩
    | reg l =>
      simp only [evStep] at h ⊢
      split at h <;> rename_i h1
      · obtain ⟨n, hn⟩ := runOps_cont h1
        exact ⟨n, by rw [hn]; exact h⟩
      · cases h
    | regd l =>
      simp only [evStep] at h ⊢
      split at h <;> rename_i h1
      · obtain ⟨n, hn⟩ := runR_cont h1
        exact ⟨n, by rw [hn]; exact h⟩
      · cases h
    | seq a b =>
      by_cases hk : ∃ l, a = .keep l
      · obtain ⟨l, rfl⟩ := hk
        simp only [evStep] at h ⊢
        exact run_iff.1 h
      · have e1 : ∀ ex : ExF, evStep T ex (.seq a b) e st = (match ex a e st with | some (.norm, e, st) => ex b e st | r => r) := by
          intro ex
          cases a <;> first | rfl | exact absurd ⟨_, rfl⟩ hk
        simp only [e1] at h ⊢
        split at h <;> rename_i h1
        · obtain ⟨n, hn⟩ := one h1
          obtain ⟨m, hm⟩ := one h
          refine ⟨max n m, ?_⟩
          rw [hn _ (Nat.le_max_left n m)]
          exact hm _ (Nat.le_max_right n m)
        · obtain ⟨n, hn⟩ := one h
          refine ⟨n, ?_⟩
          rw [hn n (Nat.le_refl _)]
          split
          · rename_i e2 st2 heq
            exact absurd h (by rw [heq]; exact h1 e2 st2)
          · rfl
    | cond x a b =>
      simp only [evStep] at h ⊢
      split at h
      · exact run_iff.1 h
      · exact run_iff.1 h
      · cases h
    | block i b =>
      simp only [evStep] at h ⊢
      split at h <;> rename_i h1
      · obtain ⟨n, hn⟩ := run_iff.1 h1
        exact ⟨n, by rw [hn]; exact h⟩
      · obtain ⟨n, hn⟩ := run_iff.1 h
        refine ⟨n, ?_⟩
        rw [hn]
        split
        · rename_i i2 e2 st2 heq
          exact absurd h (by rw [heq]; exact h1 i2 e2 st2)
        · rfl
    | loop b =>
      simp only [evStep] at h ⊢
      split at h <;> rename_i h1
      · obtain ⟨n, hn⟩ := one h1
        obtain ⟨m, hm⟩ := one h
        refine ⟨max n m, ?_⟩
        rw [hn _ (Nat.le_max_left n m)]
        exact hm _ (Nat.le_max_right n m)
      · obtain ⟨n, hn⟩ := one h
        refine ⟨n, ?_⟩
        rw [hn n (Nat.le_refl _)]
        split
        · rename_i e2 st2 heq
          exact absurd h (by rw [heq]; exact h1 e2 st2)
        · rfl
    | scope b => simp only [evStep] at h ⊢; exact run_iff.1 h
    | rangeFunc f ps a b =>
      simp only [evStep] at h ⊢
      split at h <;> rename_i h1
      · obtain ⟨n, hn⟩ := call_cont h1
        exact ⟨n, by rw [hn]; exact h⟩
      · cases h
    | exit i => exact ⟨0, h⟩
    | ret => exact ⟨0, h⟩
    | keep l => exact ⟨0, h⟩
    | rangeMap pre m d nx more pair post ks out next body =>
      simp only [evStep] at h
      split at h
      case h_2 => cases h
      rename_i h1
      split at h
      case h_2 => cases h
      rename_i h2
      split at h
      case h_2 => cases h
      rename_i h3
      split at h
      case h_2 => cases h
      rename_i h4
      obtain ⟨a, ha⟩ := runOps_cont h1
      obtain ⟨b, hb⟩ := rounds_cont h4
      refine ⟨max a b, ?_⟩
      simp only [evStep]
      rw [runOps_mono (callx_le T (Nat.le_max_left a b)) ha]
      simp only [h2, h3]
      rw [rounds_mono (callx_le T (Nat.le_max_right a b)) (exec_mono T (Nat.le_max_right a b)) hb]
      exact h
    | stuck => exact ⟨0, h⟩
  cases hr : run T c e st with
  | some r => exact (fwd r hr).symm
  | none =>
    cases he : evStep T (run T) c e st with
    | none => rfl
    | some r => rw [bwd r he] at hr; cases hr

end Go.Ev

/- The evaluator's equations, for rewriting: code by code, operation by operation. -/
namespace Go.Ev
open Go
set_option linter.unusedSimpArgs false
set_option linter.unusedVariables false

variable {T : Tab} {e : Env} {st : St}

/-- What follows a first part. -/
noncomputable def seqR (T : Tab) (b : MCode) : Option (Ex × Env × St) → Option (Ex × Env × St)
  | some (.norm, e, st) => run T b e st
  | r => r

@[go_sem] theorem seqR_norm (b : MCode) : seqR T b (some (.norm, e, st)) = run T b e st := rfl
@[go_sem] theorem seqR_exit (b : MCode) (i : Nat) : seqR T b (some (.exit i, e, st)) = some (.exit i, e, st) := rfl
@[go_sem] theorem seqR_ret (b : MCode) : seqR T b (some (.ret, e, st)) = some (.ret, e, st) := rfl
@[go_sem] theorem seqR_none (b : MCode) : seqR T b none = none := rfl

def opsR (call : CallF) (l : List MI) : Option (Env × St) → Option (Env × St)
  | some (e, st) => runOps call l e st
  | none => none
@[go_sem] theorem opsR_some (call : CallF) (l : List MI) : opsR call l (some (e, st)) = runOps call l e st := rfl
@[go_sem] theorem opsR_none (call : CallF) (l : List MI) : opsR call l none = none := rfl

def opsE : Option (Env × St) → Option (Ex × Env × St)
  | some (e, st) => some (.norm, e, st)
  | none => none
@[go_sem] theorem opsE_some : opsE (some (e, st)) = some (.norm, e, st) := rfl
@[go_sem] theorem opsE_none : opsE none = none := rfl

def blockE (i : Nat) : Option (Ex × Env × St) → Option (Ex × Env × St)
  | some (.exit j, e, st) => if j = i then some (.norm, e, st) else some (.exit j, e, st)
  | r => r
@[go_sem] theorem blockE_norm (i : Nat) : blockE i (some (.norm, e, st)) = some (.norm, e, st) := rfl
@[go_sem] theorem blockE_ret (i : Nat) : blockE i (some (.ret, e, st)) = some (.ret, e, st) := rfl
@[go_sem] theorem blockE_exit (i j : Nat) : blockE i (some (.exit j, e, st)) = if j = i then some (.norm, e, st) else some (.exit j, e, st) := rfl
@[go_sem] theorem blockE_none (i : Nat) : blockE i none = none := rfl

@[go_sem] theorem run_skip : run T .skip e st = some (.norm, e, st) := run_eq ..
@[go_sem] theorem run_exit (i : Nat) : run T (.exit i) e st = some (.exit i, e, st) := run_eq ..
@[go_sem] theorem run_ret : run T .ret e st = some (.ret, e, st) := run_eq ..
@[go_sem] theorem run_keep (l : List Nat) (m : MCode) : run T (.seq (.keep l) m) e st = run T m (keepE l e) st := run_eq ..
@[go_sem] theorem run_scope (b : MCode) : run T (.scope b) e st = run T b e st := run_eq ..
@[go_sem] theorem run_block (i : Nat) (b : MCode) : run T (.block i b) e st = blockE i (run T b e st) := by
  rw [run_eq]
  simp only [evStep]
  unfold blockE
  split
  · rename_i h
    rw [h]
  · rename_i h
    split
    · rename_i h2
      exact absurd h2 (h _ _ _)
    · rfl
@[go_sem] theorem run_reg (l : List MI) : run T (.reg l) e st = opsE (runOps (call T) l e st) := by
  rw [run_eq]
  simp only [evStep, call]
  cases runOps (evCall T (run T)) l e st <;> rfl
@[go_sem] theorem run_regd (l : List RI) : run T (.regd l) e st = opsE (runR (call T) [] st.nx l e ⟨st.h, st.nx + l.length⟩) := by
  rw [run_eq]
  simp only [evStep, call]
  cases runR (evCall T (run T)) [] st.nx l e ⟨st.h, st.nx + l.length⟩ <;> rfl
theorem run_seq' {a b : MCode} (h : ∀ l, a ≠ .keep l) : run T (.seq a b) e st = seqR T b (run T a e st) := by
  rw [run_eq]
  have e1 : evStep T (run T) (.seq a b) e st = (match run T a e st with | some (.norm, e, st) => run T b e st | r => r) := by
    cases a <;> first | rfl | exact absurd rfl (h _)
  rw [e1]
  unfold seqR
  split <;> rfl
section
variable (b c d : MCode)
@[go_sem] theorem run_seq_skip : run T (.seq .skip b) e st = seqR T b (run T .skip e st) := run_seq' (by simp)
@[go_sem] theorem run_seq_reg (l : List MI) : run T (.seq (.reg l) b) e st = seqR T b (run T (.reg l) e st) := run_seq' (by simp)
@[go_sem] theorem run_seq_regd (l : List RI) : run T (.seq (.regd l) b) e st = seqR T b (run T (.regd l) e st) := run_seq' (by simp)
@[go_sem] theorem run_seq_seq : run T (.seq (.seq c d) b) e st = seqR T b (run T (.seq c d) e st) := run_seq' (by simp)
@[go_sem] theorem run_seq_cond (x : AO) : run T (.seq (.cond x c d) b) e st = seqR T b (run T (.cond x c d) e st) := run_seq' (by simp)
@[go_sem] theorem run_seq_block (i : Nat) : run T (.seq (.block i c) b) e st = seqR T b (run T (.block i c) e st) := run_seq' (by simp)
@[go_sem] theorem run_seq_loop : run T (.seq (.loop c) b) e st = seqR T b (run T (.loop c) e st) := run_seq' (by simp)
@[go_sem] theorem run_seq_scope : run T (.seq (.scope c) b) e st = seqR T b (run T (.scope c) e st) := run_seq' (by simp)
@[go_sem] theorem run_seq_exit (i : Nat) : run T (.seq (.exit i) b) e st = some (.exit i, e, st) := by rw [run_seq' (by simp), run_exit]; rfl
@[go_sem] theorem run_seq_ret : run T (.seq .ret b) e st = some (.ret, e, st) := by rw [run_seq' (by simp), run_ret]; rfl
@[go_sem] theorem run_seq_rm (pre : List MI) (m : AO) (d nx more pair : Nat) (post : List MI) (ks : List Nat) (out next : Nat) : run T (.seq (.rangeMap pre m d nx more pair post ks out next c) b) e st = seqR T b (run T (.rangeMap pre m d nx more pair post ks out next c) e st) := run_seq' (by simp)
@[go_sem] theorem run_seq_rf (f : AO) (ps : List Nat) : run T (.seq (.rangeFunc f ps c d) b) e st = seqR T b (run T (.rangeFunc f ps c d) e st) := run_seq' (by simp)
end

/-- A loop's next round. -/
theorem run_loop (b : MCode) : run T (.loop b) e st = seqR T (.loop b) (run T b e st) := by
  rw [run_eq]
  simp only [evStep]
  unfold seqR
  split
  · rename_i h1
    rw [h1]
  · rename_i h1
    split
    · rename_i h2
      exact absurd h2 (h1 _ _)
    · rfl

/-- A two-way branch on a value. -/
noncomputable def brR (T : Tab) (a b : MCode) (e : Env) (st : St) : AV → Option (Ex × Env × St)
  | .bool v => if v = true then run T a e st else run T b e st
  | _ => none
@[go_sem] theorem brR_bool (a b : MCode) (v : Bool) : brR T a b e st (.bool v) = if v = true then run T a e st else run T b e st := rfl
@[go_sem] theorem run_cond (x : AO) (a b : MCode) : run T (.cond x a b) e st = brR T a b e st (x.ev e) := by
  rw [run_eq]
  simp only [evStep]
  cases x.ev e with
  | bool v => cases v <;> rfl
  | _ => rfl

@[go_sem] theorem runOps_nil' (call : CallF) : runOps call [] e st = some (e, st) := rfl
@[go_sem] theorem runOps_cons' (call : CallF) (i : MI) (l : List MI) : runOps call (i :: l) e st = opsR call l (i.run call e st) := by
  simp only [runOps]
  cases i.run call e st <;> rfl

def miR (d : Option Nat) (e : Env) : Option (AV × St) → Option (Env × St)
  | some (v, st) => some (eput e d v, st)
  | none => none
@[go_sem] theorem miR_some (d : Option Nat) (v : AV) : miR d e (some (v, st)) = some (eput e d v, st) := rfl
@[go_sem] theorem miR_none (d : Option Nat) : miR d e none = none := rfl

@[go_sem] theorem MI_run_free (call : CallF) (d : Option Nat) (o : MO) : MI.run call ⟨d, none, o⟩ e st = miR d e (o.run call (AO.ev e) st) := by
  simp only [MI.run, wanted]
  cases o.run call (AO.ev e) st <;> rfl

def guardR (call : CallF) (d : Option Nat) (b : Bool) (o : MO) (e : Env) (st : St) : AV → Option (Env × St)
  | .bool c => if c = b then miR d e (o.run call (AO.ev e) st) else some (eput e d unmade, st)
  | .tuple _ => some (eput e d unmade, st)
  | _ => none
@[go_sem] theorem guardR_bool (call : CallF) (d : Option Nat) (b c : Bool) (o : MO) : guardR call d b o e st (.bool c) = if c = b then miR d e (o.run call (AO.ev e) st) else some (eput e d unmade, st) := rfl
@[go_sem] theorem guardR_tuple (call : CallF) (d : Option Nat) (b : Bool) (o : MO) (l : List AV) : guardR call d b o e st (.tuple l) = some (eput e d unmade, st) := rfl
@[go_sem] theorem MI_run_guard (call : CallF) (d : Option Nat) (t : Nat) (b : Bool) (o : MO) : MI.run call ⟨d, some (t, b), o⟩ e st = guardR call d b o e st (eget e t) := by
  simp only [MI.run, wanted]
  cases hv : eget e t with
  | bool c =>
    simp only [guardR]
    cases hcb : c == b with
    | true =>
      rw [if_pos (by simpa using hcb)]
      simp only
      cases o.run call (AO.ev e) st <;> rfl
    | false => rw [if_neg (by simpa using hcb)]
  | _ => rfl

@[go_sem] theorem MO_p (call : CallF) (ev : AO → AV) (o : PO) : MO.run call ev st (.p o) = (PO.run ev o).map fun v => (v, st) := by
  simp only [MO.run]; cases PO.run ev o <;> rfl
@[go_sem] theorem MO_r (call : CallF) (ev : AO → AV) (o : RO) : MO.run call ev st (.r o) = (RO.run ev st.h o).map fun v => (v, st) := by
  simp only [MO.run]; cases RO.run ev st.h o <;> rfl
@[go_sem] theorem MO_n (call : CallF) (ev : AO → AV) (o : NO) : MO.run call ev st (.n o) = (NO.run ev st.nx o).map fun p => (p.1, ⟨(st.nx, p.2) :: st.h, st.nx + 1⟩) := by
  simp only [MO.run]; cases NO.run ev st.nx o <;> rfl
@[go_sem] theorem MO_call (call : CallF) (ev : AO → AV) (f : AO) (xs : List AO) : MO.run call ev st (.w (.call f xs)) = call (ev f) (xs.map ev) st := rfl

@[go_sem] theorem MO_store (call : CallF) (ev : AO → AV) (z : Nat) (a x : AO) : MO.run call ev st (.w (.store z a x)) = WO.run call ev st (.store z a x) := rfl
@[go_sem] theorem MO_append (call : CallF) (ev : AO → AV) (a b c : Nat) (z : List AV) (s x : AO) : MO.run call ev st (.w (.append a b c z s x)) = aappend a b c st (ev s) (ev x) := rfl
@[go_sem] theorem MO_copy (call : CallF) (ev : AO → AV) (z : Nat) (a x : AO) : MO.run call ev st (.w (.copy z a x)) = WO.run call ev st (.copy z a x) := rfl
@[go_sem] theorem MO_mput (call : CallF) (ev : AO → AV) (k : Kd) (a b c : AO) : MO.run call ev st (.w (.mput k a b c)) = WO.run call ev st (.mput k a b c) := rfl

@[go_sem] theorem ev_t (n : Nat) : AO.ev e (.t n) = eget e n := rfl
@[go_sem] theorem ev_k (v : AV) : AO.ev e (.k v) = v := rfl
@[go_sem] theorem eput_some (d : Nat) (v : AV) : eput e (some d) v = (d, v) :: e := rfl
@[go_sem] theorem eput_none (v : AV) : eput e none v = e := rfl
@[go_sem] theorem eget_nil (t : Nat) : eget [] t = .bot := rfl
@[go_sem] theorem eget_cons (m t : Nat) (v : AV) : eget ((m, v) :: e) t = if m = t then v else eget e t := rfl
@[go_sem] theorem keepE_nil : keepE [] e = [] := rfl
@[go_sem] theorem keepE_cons (t : Nat) (l : List Nat) : keepE (t :: l) e = (t, eget e t) :: keepE l e := rfl

/-- Operations on bits: by name, so that rewriting does not look into them. -/
def iand (k : IntKind) (a b : Int) : Int := k.wrap (BitVec.ofInt k.bits a &&& BitVec.ofInt k.bits b).toNat
def ior (k : IntKind) (a b : Int) : Int := k.wrap (BitVec.ofInt k.bits a ||| BitVec.ofInt k.bits b).toNat
def ixor (k : IntKind) (a b : Int) : Int := k.wrap (BitVec.ofInt k.bits a ^^^ BitVec.ofInt k.bits b).toNat
def iandn (k : IntKind) (a b : Int) : Int := k.wrap (BitVec.ofInt k.bits a &&& ~~~ BitVec.ofInt k.bits b).toNat
def ishl (k : IntKind) (a b : Int) : Int := k.wrap (a * (2 ^ (min b.toNat k.bits) : Nat))
def ishr (k : IntKind) (a b : Int) : Int := a.fdiv (2 ^ (min b.toNat k.bits) : Nat)
def ixor1 (k : IntKind) (n : Int) : Int := k.wrap (BitVec.ofInt k.bits (if k.signed then -1 else k.max) ^^^ BitVec.ofInt k.bits n).toNat

section
variable (k k' : IntKind) (a b : Int)
@[go_sem] theorem abin_add : abin .add (.int k a) (.int k' b) = if k = k' then some (.int k (k.wrap (a + b))) else none := by simp only [abin, ibin, intF_eq, wrp_eq]
@[go_sem] theorem abin_sub : abin .sub (.int k a) (.int k' b) = if k = k' then some (.int k (k.wrap (a - b))) else none := by simp only [abin, ibin, intF_eq, wrp_eq]
@[go_sem] theorem abin_mul : abin .mul (.int k a) (.int k' b) = if k = k' then some (.int k (k.wrap (a * b))) else none := by simp only [abin, ibin, intF_eq, wrp_eq]
@[go_sem] theorem abin_quo : abin .quo (.int k a) (.int k' b) = if k = k' then (if b = 0 then none else some (.int k (k.wrap (a.tdiv b)))) else none := by simp only [abin, ibin, intF_eq, wrp_eq]
@[go_sem] theorem abin_rem : abin .rem (.int k a) (.int k' b) = if k = k' then (if b = 0 then none else some (.int k (a.tmod b))) else none := by simp only [abin, ibin, intF_eq]
@[go_sem] theorem abin_and : abin .and (.int k a) (.int k' b) = if k = k' then some (.int k (iand k a b)) else none := by simp only [abin, ibin, intF_eq, wrp_eq, iand]
@[go_sem] theorem abin_or : abin .or (.int k a) (.int k' b) = if k = k' then some (.int k (ior k a b)) else none := by simp only [abin, ibin, intF_eq, wrp_eq, ior]
@[go_sem] theorem abin_xor : abin .xor (.int k a) (.int k' b) = if k = k' then some (.int k (ixor k a b)) else none := by simp only [abin, ibin, intF_eq, wrp_eq, ixor]
@[go_sem] theorem abin_andNot : abin .andNot (.int k a) (.int k' b) = if k = k' then some (.int k (iandn k a b)) else none := by simp only [abin, ibin, intF_eq, wrp_eq, iandn]
@[go_sem] theorem abin_shl : abin .shl (.int k a) (.int k' b) = if b < 0 then none else some (.int k (ishl k a b)) := by simp only [abin, intF_eq, wrp_eq, ishl]
@[go_sem] theorem abin_shr : abin .shr (.int k a) (.int k' b) = if b < 0 then none else some (.int k (ishr k a b)) := by simp only [abin, intF_eq, ishr]
@[go_sem] theorem abin_eql : abin .eql (.int k a) (.int k' b) = if k = k' then some (.bool (decide (a = b))) else none := by simp only [abin, ibin]
@[go_sem] theorem abin_neq : abin .neq (.int k a) (.int k' b) = if k = k' then some (.bool (!decide (a = b))) else none := by simp only [abin, ibin]
@[go_sem] theorem abin_lss : abin .lss (.int k a) (.int k' b) = if k = k' then some (.bool (decide (a < b))) else none := by simp only [abin, ibin]
@[go_sem] theorem abin_leq : abin .leq (.int k a) (.int k' b) = if k = k' then some (.bool (decide (a ≤ b))) else none := by simp only [abin, ibin]
@[go_sem] theorem abin_gtr : abin .gtr (.int k a) (.int k' b) = if k = k' then some (.bool (decide (b < a))) else none := by simp only [abin, ibin]
@[go_sem] theorem abin_geq : abin .geq (.int k a) (.int k' b) = if k = k' then some (.bool (decide (b ≤ a))) else none := by simp only [abin, ibin]
@[go_sem] theorem abin_str (op : BinOp) (x y : List UInt8) : abin op (.str x) (.str y) = sbin op x y := by simp only [abin]
@[go_sem] theorem aun_neg : aun .neg (.int k a) = some (.int k (k.wrap (0 - a))) := by simp only [aun, intF_eq, wrp_eq]
@[go_sem] theorem aun_xor : aun .xor (.int k a) = some (.int k (ixor1 k a)) := by simp only [aun, intF_eq, wrp_eq, ixor1]
@[go_sem] theorem aun_not (x : Bool) : aun .not (.bool x) = some (.bool !x) := rfl
end

attribute [go_sem] PO.run intF_eq wrp_eq sbin Option.map_some Option.map_none

end Go.Ev

/- Calls on symbolic data: states that are well made, and what a call leaves alone. -/
namespace Go.Ev
open Go
set_option linter.unusedSimpArgs false
set_option linter.unusedVariables false

variable {T : Tab} {e : Env} {st st' st'' : St}

/-- Every name is below the next one. -/
structure St.Wf (st : St) : Prop where
  lt : ∀ n o, hget st.h n = some o → n < st.nx
  nd : (st.h.map (·.1)).Nodup

/-- A later state that holds what the first one held. -/
structure Ext (st st' : St) : Prop where
  nx : st.nx ≤ st'.nx
  wf : st'.Wf
  keep : ∀ n, n < st.nx → hget st'.h n = hget st.h n

theorem Ext.refl (h : st.Wf) : Ext st st := ⟨Nat.le_refl _, h, fun _ _ => rfl⟩
theorem Ext.trans (a : Ext st st') (b : Ext st' st'') : Ext st st'' :=
  ⟨Nat.le_trans a.nx b.nx, b.wf, fun n hn => by rw [b.keep n (Nat.lt_of_lt_of_le hn a.nx), a.keep n hn]⟩
theorem Ext.get (a : Ext st st') (hw : st.Wf) {n : Nat} {o : AObj} (h : hget st.h n = some o) : hget st'.h n = some o := by
  rw [a.keep n (hw.lt n o h), h]

/-- The same but for some objects. -/
structure Frm (S : List Nat) (st st' : St) : Prop where
  nx : st.nx ≤ st'.nx
  wf : st'.Wf
  keep : ∀ n, n < st.nx → n ∉ S → hget st'.h n = hget st.h n

theorem Ext.fr (a : Ext st st') (S : List Nat) : Frm S st st' := ⟨a.nx, a.wf, fun n hn _ => a.keep n hn⟩
theorem Frm.trans {S R : List Nat} (a : Frm S st st') (b : Frm R st' st'') (h : ∀ n ∈ R, n ∈ S ∨ st.nx ≤ n) : Frm S st st'' :=
  ⟨Nat.le_trans a.nx b.nx, b.wf, fun n hn hs => by
    rw [b.keep n (Nat.lt_of_lt_of_le hn a.nx) (fun hr => by
      rcases h n hr with h | h
      · exact hs h
      · omega), a.keep n hn hs]⟩
theorem Frm.mono {S R : List Nat} (a : Frm S st st') (h : ∀ n ∈ S, n ∈ R) : Frm R st st' := ⟨a.nx, a.wf, fun n hn hr => a.keep n hn (fun hs => hr (h n hs))⟩
theorem Frm.get {S : List Nat} (a : Frm S st st') (hw : st.Wf) {n : Nat} {o : AObj} (h : hget st.h n = some o) (hn : n ∉ S) : hget st'.h n = some o := by
  rw [a.keep n (hw.lt n o h) hn, h]
theorem Frm.ext {S : List Nat} (a : Frm S st st') (h : ∀ n ∈ S, st.nx ≤ n) : Ext st st' :=
  ⟨a.nx, a.wf, fun n hn => a.keep n hn (fun hs => by have := h n hs; omega)⟩

theorem hget_cons (m n : Nat) (o : AObj) (h : Heap) : hget ((m, o) :: h) n = if m = n then some o else hget h n := rfl
theorem hset_cons (m n : Nat) (o p : AObj) (h : Heap) : hset ((m, p) :: h) n o = if m = n then (n, o) :: h else (m, p) :: hset h n o := rfl

theorem hget_mem : ∀ {h : Heap} {n : Nat} {o : AObj}, hget h n = some o → (n, o) ∈ h
  | (m, p) :: h, n, o, hg => by
    simp only [hget] at hg
    split at hg
    · rename_i e; subst e; injection hg with e; subst e; exact List.mem_cons_self
    · exact List.mem_cons_of_mem _ (hget_mem hg)
theorem mem_hget : ∀ {h : Heap} {n : Nat} {o : AObj}, (h.map (·.1)).Nodup → (n, o) ∈ h → hget h n = some o
  | (m, p) :: h, n, o, hd, hm => by
    simp only [List.map_cons, List.nodup_cons] at hd
    simp only [hget]
    rcases List.mem_cons.1 hm with e | hm
    · injection e with e1 e2; subst e1; subst e2; rw [if_pos rfl]
    · rw [if_neg, mem_hget hd.2 hm]
      rintro rfl
      exact hd.1 (List.mem_map.2 ⟨_, hm, rfl⟩)
theorem hset_names : ∀ {h : Heap} {n : Nat} {o : AObj}, (hset h n o).map (·.1) = h.map (·.1)
  | [], _, _ => rfl
  | (m, p) :: h, n, o => by
    simp only [hset]
    split
    · rename_i e; subst e; rfl
    · simp [hset_names]
theorem hdel_sub : ∀ {h : Heap} {n : Nat}, ((hdel h n).map (·.1)).Sublist (h.map (·.1))
  | [], _ => List.Sublist.slnil
  | (m, p) :: h, n => by
    simp only [hdel]
    split
    · exact hdel_sub.cons _
    · exact hdel_sub.cons_cons _
theorem hdrop_sub : ∀ {l : List Nat} {h : Heap}, ((hdrop l h).map (·.1)).Sublist (h.map (·.1))
  | _, [] => List.Sublist.slnil
  | l, (m, p) :: h => by
    simp only [hdrop]
    split
    · exact hdrop_sub.cons _
    · exact hdrop_sub.cons_cons _

theorem hdrop_id : ∀ {h : Heap} {l : List Nat}, (∀ n ∈ l, hget h n = none) → hdrop l h = h
  | [], _, _ => rfl
  | (m, o) :: h, l, hh => by
    have hm : hmem m l = false := by
      cases hq : hmem m l with
      | false => rfl
      | true =>
        have := hh m (hmem_iff.1 hq)
        simp [hget] at this
    simp only [hdrop, hm, Bool.false_eq_true, if_false]
    rw [hdrop_id (fun n hn => by
      have := hh n hn
      simp only [hget] at this
      split at this
      · cases this
      · exact this)]

theorem hdrop_nil (h : Heap) : hdrop [] h = h := hdrop_id (fun n hn => by cases hn)
theorem dropLoc_eq (c : Nat) (h : Heap) : dropLoc c h = hdrop (locNames c h) h := by
  unfold dropLoc
  split
  · rename_i he; rw [he, hdrop_nil]
  · rfl

theorem hget_hdrop_iff : ∀ {h : Heap} {l : List Nat} {n : Nat}, hget (hdrop l h) n = if n ∈ l then none else hget h n
  | [], l, n => by simp [hdrop, hget]
  | (m, o) :: h, l, n => by
    simp only [hdrop]
    split
    · rename_i hm
      rw [hget_hdrop_iff]
      simp only [hget]
      split
      · rfl
      · rename_i hn
        rw [if_neg]
        rintro rfl
        exact hn (hmem_iff.1 hm)
    · rename_i hm
      simp only [hget]
      rw [hget_hdrop_iff]
      by_cases e : m = n
      · subst e
        rw [if_pos rfl, if_pos rfl, if_neg (fun h => hm (hmem_iff.2 h))]
      · rw [if_neg e, if_neg e]

theorem mem_locNames : ∀ {h : Heap} {c n : Nat}, n ∈ locNames c h → c ≤ n
  | [], _, _, hn => by cases hn
  | (m, o) :: h, c, n, hn => by
    simp only [locNames] at hn
    split at hn
    · split at hn
      · exact mem_locNames hn
      · rcases List.mem_cons.1 hn with rfl | hn
        · omega
        · exact mem_locNames hn
    · exact mem_locNames hn

theorem mem_locNames_loc : ∀ {h : Heap} {c n : Nat}, n ∈ locNames c h → ∃ ty cs, (n, AObj.cells ty true cs) ∈ h
  | [], _, _, hn => by cases hn
  | (m, o) :: h, c, n, hn => by
    simp only [locNames] at hn
    split at hn
    · split at hn
      · obtain ⟨ty, cs, h⟩ := mem_locNames_loc hn; exact ⟨ty, cs, List.mem_cons_of_mem _ h⟩
      · rcases List.mem_cons.1 hn with rfl | hn
        · exact ⟨_, _, List.mem_cons_self⟩
        · obtain ⟨ty, cs, h⟩ := mem_locNames_loc hn; exact ⟨ty, cs, List.mem_cons_of_mem _ h⟩
    · obtain ⟨ty, cs, h⟩ := mem_locNames_loc hn; exact ⟨ty, cs, List.mem_cons_of_mem _ h⟩

/-- What is dropped is of the call's own. -/
theorem hget_dropLoc_lt {h : Heap} {c n : Nat} (hn : n < c) : hget (dropLoc c h) n = hget h n := by
  rw [dropLoc_eq, hget_hdrop_iff, if_neg]
  intro hm
  have := mem_locNames hm
  omega

theorem hget_dropLoc_some {h : Heap} {c n : Nat} {o : AObj} (hg : hget (dropLoc c h) n = some o) : hget h n = some o := by
  rw [dropLoc_eq, hget_hdrop_iff] at hg
  split at hg
  · cases hg
  · exact hg

theorem dropLoc_sub {h : Heap} {c : Nat} : ((dropLoc c h).map (·.1)).Sublist (h.map (·.1)) := by
  rw [dropLoc_eq]; exact hdrop_sub
theorem St.Wf.dropLoc (a : st'.Wf) (c : Nat) : St.Wf ⟨dropLoc c st'.h, st'.nx⟩ := ⟨fun n o ho => a.lt n o (hget_dropLoc_some ho), a.nd.sublist dropLoc_sub⟩
/-- Is it a block that goes with its call? -/
def AObj.lc : AObj → Bool
  | .cells _ true _ => true
  | _ => false
theorem hget_dropLoc_keep {c n : Nat} {o : AObj} (hw : st.Wf) (hg : hget st.h n = some o) (hl : o.lc = false) : hget (dropLoc c st.h) n = some o := by
  rw [dropLoc_eq, hget_hdrop_iff, if_neg, hg]
  intro hm
  obtain ⟨ty, cs, hmem⟩ := mem_locNames_loc hm
  rw [mem_hget hw.nd hmem] at hg
  injection hg with e
  subst e
  cases hl

theorem Ext.dropLoc (a : Ext st st') : Ext st ⟨dropLoc st.nx st'.h, st'.nx⟩ :=
  ⟨a.nx, a.wf.dropLoc _, fun n hn => by rw [hget_dropLoc_lt hn, a.keep n hn]⟩

/-- Names laid aside. -/
theorem Ext.aside (h : st.Wf) (k : Nat) : Ext st ⟨st.h, st.nx + k⟩ := ⟨Nat.le_add_right _ _, ⟨fun n o ho => Nat.lt_of_lt_of_le (h.lt n o ho) (Nat.le_add_right _ _), h.nd⟩, fun _ _ => rfl⟩

theorem Frm.dropLoc {S : List Nat} (a : Frm S st st') : Frm S st ⟨Go.Ev.dropLoc st.nx st'.h, st'.nx⟩ :=
  ⟨a.nx, a.wf.dropLoc _, fun n hn hs => by rw [hget_dropLoc_lt hn, a.keep n hn hs]⟩

/-- An object is written. -/
theorem Frm.set (h : st.Wf) {n : Nat} {o p : AObj} (hg : hget st.h n = some p) : Frm [n] st ⟨hset st.h n o, st.nx⟩ :=
  ⟨Nat.le_refl _, ⟨fun m q hq => by
    rw [hget_hset hg] at hq
    split at hq
    · rename_i e; subst e; exact h.lt _ _ hg
    · exact h.lt _ _ hq, by show ((hset st.h n o).map _).Nodup; rw [hset_names]; exact h.nd⟩, fun m hm hs => by
    rw [hget_hset hg, if_neg]
    rintro rfl
    exact hs List.mem_cons_self⟩

/-- A new object. -/
theorem Ext.new (h : st.Wf) (o : AObj) : Ext st ⟨(st.nx, o) :: st.h, st.nx + 1⟩ := by
  refine ⟨Nat.le_succ _, ⟨fun n p hp => ?_, ?_⟩, fun n hn => ?_⟩
  · simp only [hget] at hp
    split at hp
    · rename_i e; subst e; exact Nat.lt_succ_self _
    · exact Nat.lt_succ_of_lt (h.lt n p hp)
  · simp only [List.map_cons, List.nodup_cons]
    refine ⟨fun hm => ?_, h.nd⟩
    obtain ⟨⟨m, p⟩, hm, e⟩ := List.mem_map.1 hm
    simp only at e
    subst e
    have := h.lt _ _ (mem_hget h.nd hm)
    omega
  · simp only [hget]
    rw [if_neg (by omega)]

/-- What a call comes to, from its body. -/
def callR (mf : MFun) (st : St) : Option (Ex × Env × St) → Option (AV × St)
  | some (.norm, e, s) | some (.ret, e, s) => (fresults s.h e mf.results).map fun v => (v, ⟨dropLoc st.nx s.h, s.nx⟩)
  | _ => none

theorem call_fn {k : Nat} {mf : MFun} (hen : T.en k = none) (hf : T.fn k = some mf) {first args cap : List AV} (hl : (first ++ args ++ cap).length = mf.nargs) :
    call T (.fn k first cap) args st = callR mf st (run T mf.body (argEnv 0 (first ++ args ++ cap)) st) := by
  simp only [call, evCall, evCallF, hen, hf]
  rw [if_pos hl]
  unfold callR
  split <;> rename_i h1 <;> simp only [h1]
  · cases fresults _ _ mf.results <;> rfl
  · cases fresults _ _ mf.results <;> rfl

/-- A result, and what holds of it. -/
def Res (r : Option (Ex × Env × St)) (Q : Ex → Env → St → Prop) : Prop := match r with | some (x, e, s) => Q x e s | none => False
@[go_sem] theorem Res_some (x : Ex) (s : St) (Q : Ex → Env → St → Prop) : Res (some (x, e, s)) Q = Q x e s := rfl

theorem Res.elim {r : Option (Ex × Env × St)} {Q : Ex → Env → St → Prop} (h : Res r Q) : ∃ x e s, r = some (x, e, s) ∧ Q x e s := by
  unfold Res at h
  split at h
  · exact ⟨_, _, _, rfl, h⟩
  · exact h.elim

theorem Res.mono {r : Option (Ex × Env × St)} {Q R : Ex → Env → St → Prop} (h : Res r Q) (hq : ∀ x e s, Q x e s → R x e s) : Res r R := by
  obtain ⟨x, e, s, rfl, h⟩ := h.elim
  exact hq _ _ _ h

/-- The same for operations, and for calls. -/
def ORes (r : Option (Env × St)) (Q : Env → St → Prop) : Prop := match r with | some (e, s) => Q e s | none => False
def CRes (r : Option (AV × St)) (Q : AV → St → Prop) : Prop := match r with | some (v, s) => Q v s | none => False
@[go_sem] theorem ORes_some (s : St) (Q : Env → St → Prop) : ORes (some (e, s)) Q = Q e s := rfl
@[go_sem] theorem CRes_some (v : AV) (s : St) (Q : AV → St → Prop) : CRes (some (v, s)) Q = Q v s := rfl

/-- What follows, as data: nothing of it is looked into before it is reached. -/
def kSeq (T : Tab) (b : MCode) (Q : Ex → Env → St → Prop) (x : Ex) (e : Env) (s : St) : Prop := Res (seqR T b (some (x, e, s))) Q
@[go_sem] theorem kSeq_norm (b : MCode) (Q : Ex → Env → St → Prop) (s : St) : kSeq T b Q .norm e s = Res (run T b e s) Q := rfl
@[go_sem] theorem kSeq_exit (b : MCode) (Q : Ex → Env → St → Prop) (i : Nat) (s : St) : kSeq T b Q (.exit i) e s = Q (.exit i) e s := rfl
@[go_sem] theorem kSeq_ret (b : MCode) (Q : Ex → Env → St → Prop) (s : St) : kSeq T b Q .ret e s = Q .ret e s := rfl
@[go_sem] theorem Res_seqR (b : MCode) (r : Option (Ex × Env × St)) (Q : Ex → Env → St → Prop) : Res (seqR T b r) Q = Res r (kSeq T b Q) := by
  cases r with
  | none => rfl
  | some p => obtain ⟨x, e, s⟩ := p; rfl
def kBlk (i : Nat) (Q : Ex → Env → St → Prop) (x : Ex) (e : Env) (s : St) : Prop := Res (blockE i (some (x, e, s))) Q
@[go_sem] theorem kBlk_norm (i : Nat) (Q : Ex → Env → St → Prop) (s : St) : kBlk i Q .norm e s = Q .norm e s := rfl
@[go_sem] theorem kBlk_ret (i : Nat) (Q : Ex → Env → St → Prop) (s : St) : kBlk i Q .ret e s = Q .ret e s := rfl
@[go_sem] theorem kBlk_exit (i j : Nat) (Q : Ex → Env → St → Prop) (s : St) : kBlk i Q (.exit j) e s = if j = i then Q .norm e s else Q (.exit j) e s := by
  unfold kBlk
  rw [blockE_exit]
  split <;> rfl
@[go_sem] theorem Res_blockE (i : Nat) (r : Option (Ex × Env × St)) (Q : Ex → Env → St → Prop) : Res (blockE i r) Q = Res r (kBlk i Q) := by
  cases r with
  | none => rfl
  | some p => obtain ⟨x, e, s⟩ := p; rfl
def kE (Q : Ex → Env → St → Prop) (e : Env) (s : St) : Prop := Q .norm e s
@[go_sem] theorem kE_eq (Q : Ex → Env → St → Prop) (s : St) : kE Q e s = Q .norm e s := rfl
@[go_sem] theorem Res_opsE (r : Option (Env × St)) (Q : Ex → Env → St → Prop) : Res (opsE r) Q = ORes r (kE Q) := by
  cases r <;> rfl
def kOps (call : CallF) (l : List MI) (K : Env → St → Prop) (e : Env) (s : St) : Prop := ORes (runOps call l e s) K
@[go_sem] theorem kOps_eq (call : CallF) (l : List MI) (K : Env → St → Prop) (s : St) : kOps call l K e s = ORes (runOps call l e s) K := rfl
@[go_sem] theorem ORes_opsR (call : CallF) (l : List MI) (r : Option (Env × St)) (K : Env → St → Prop) : ORes (opsR call l r) K = ORes r (kOps call l K) := by
  cases r <;> rfl
def kPut (d : Option Nat) (e : Env) (K : Env → St → Prop) (v : AV) (s : St) : Prop := K (eput e d v) s
@[go_sem] theorem kPut_eq (d : Option Nat) (K : Env → St → Prop) (v : AV) (s : St) : kPut d e K v s = K (eput e d v) s := rfl
@[go_sem] theorem ORes_miR (d : Option Nat) (r : Option (AV × St)) (K : Env → St → Prop) : ORes (miR d e r) K = CRes r (kPut d e K) := by
  cases r <;> rfl

/-- The operations of a drawn region. -/
def IRes (r : Option (Env × St × Nat)) (Q : Env → St → Nat → Prop) : Prop := match r with | some (e, s, n) => Q e s n | none => False
@[go_sem] theorem IRes_some (s : St) (n : Nat) (Q : Env → St → Nat → Prop) : IRes (some (e, s, n)) Q = Q e s n := rfl
def kR (call : CallF) (d : List (Nat × MI)) (l : List RI) (K : Env → St → Prop) (e : Env) (s : St) (nm : Nat) : Prop := ORes (runR call d nm l e s) K
@[go_sem] theorem kR_eq (call : CallF) (d : List (Nat × MI)) (l : List RI) (K : Env → St → Prop) (s : St) (nm : Nat) : kR call d l K e s nm = ORes (runR call d nm l e s) K := rfl
@[go_sem] theorem runR_end (call : CallF) (d : List (Nat × MI)) (nm : Nat) (s : St) : runR call d nm [] e s = some (e, s) := rfl
@[go_sem] theorem runR_op (call : CallF) (d : List (Nat × MI)) (nm i : Nat) (o : MI) (l : List RI) (s : St) (K : Env → St → Prop) :
    ORes (runR call d nm (.op i o :: l) e s) K = IRes (runI call nm o e s) (kR call ((i, o) :: d) l K) := by
  simp only [runR]
  cases runI call nm o e s with
  | none => rfl
  | some p => obtain ⟨e, s, n⟩ := p; rfl
@[go_sem] theorem runR_re (call : CallF) (d : List (Nat × MI)) (nm i : Nat) (l : List RI) (s : St) (K : Env → St → Prop) :
    ORes (runR call d nm (.re i :: l) e s) K = (reI d i e s = true ∧ ORes (runR call d nm l e s) K) := by
  simp only [runR]
  by_cases h : reI d i e s = true
  · simp [h]
  · simp [h, ORes]
@[go_sem] theorem dfind_cons (j i : Nat) (o : MI) (r : List (Nat × MI)) : dfind ((j, o) :: r) i = if j = i then some o else dfind r i := rfl

/-- An operation that is no new block. -/
def iR (nm : Nat) (d : Option Nat) (e : Env) : Option (AV × St) → Option (Env × St × Nat)
  | some (v, s) => some (eput e d v, s, nm)
  | none => none
def kPutI (nm : Nat) (d : Option Nat) (e : Env) (Q : Env → St → Nat → Prop) (v : AV) (s : St) : Prop := Q (eput e d v) s nm
@[go_sem] theorem kPutI_eq (nm : Nat) (d : Option Nat) (Q : Env → St → Nat → Prop) (v : AV) (s : St) : kPutI nm d e Q v s = Q (eput e d v) s nm := rfl
@[go_sem] theorem IRes_iR (nm : Nat) (d : Option Nat) (r : Option (AV × St)) (Q : Env → St → Nat → Prop) : IRes (iR nm d e r) Q = CRes r (kPutI nm d e Q) := by
  cases r <;> rfl
@[go_sem] theorem runI_p (call : CallF) (nm : Nat) (d : Option Nat) (p : PO) (s : St) : runI call nm ⟨d, none, .p p⟩ e s = iR nm d e (MO.run call (AO.ev e) s (.p p)) := by
  simp only [runI, wanted]; cases MO.run call (AO.ev e) s (.p p) <;> rfl
@[go_sem] theorem runI_r (call : CallF) (nm : Nat) (d : Option Nat) (p : RO) (s : St) : runI call nm ⟨d, none, .r p⟩ e s = iR nm d e (MO.run call (AO.ev e) s (.r p)) := by
  simp only [runI, wanted]; cases MO.run call (AO.ev e) s (.r p) <;> rfl
@[go_sem] theorem runI_w (call : CallF) (nm : Nat) (d : Option Nat) (p : WO) (s : St) : runI call nm ⟨d, none, .w p⟩ e s = iR nm d e (MO.run call (AO.ev e) s (.w p)) := by
  simp only [runI, wanted]; cases MO.run call (AO.ev e) s (.w p) <;> rfl
@[go_sem] theorem runI_n (call : CallF) (nm : Nat) (d : Option Nat) (p : NO) (s : St) : runI call nm ⟨d, none, .n p⟩ e s = (NO.run (AO.ev e) nm p).map fun q => (eput e d q.1, ⟨(nm, q.2) :: s.h, s.nx⟩, nm + 1) := by
  simp only [runI, wanted]; cases NO.run (AO.ev e) nm p <;> rfl
/-- The same under a guard. -/
def igR (call : CallF) (nm : Nat) (d : Option Nat) (b : Bool) (o : MO) (e : Env) (s : St) : AV → Option (Env × St × Nat)
  | .bool c => if c = b then runI call nm ⟨d, none, o⟩ e s else some (eput e d unmade, s, nm)
  | .tuple _ => some (eput e d unmade, s, nm)
  | _ => none
@[go_sem] theorem igR_bool (call : CallF) (nm : Nat) (d : Option Nat) (b c : Bool) (o : MO) (s : St) : igR call nm d b o e s (.bool c) = if c = b then runI call nm ⟨d, none, o⟩ e s else some (eput e d unmade, s, nm) := rfl
@[go_sem] theorem igR_tuple (call : CallF) (nm : Nat) (d : Option Nat) (b : Bool) (o : MO) (l : List AV) (s : St) : igR call nm d b o e s (.tuple l) = some (eput e d unmade, s, nm) := rfl
@[go_sem] theorem runI_guard (call : CallF) (nm : Nat) (d : Option Nat) (t : Nat) (b : Bool) (o : MO) (s : St) : runI call nm ⟨d, some (t, b), o⟩ e s = igR call nm d b o e s (eget e t) := by
  simp only [runI, wanted]
  cases hv : eget e t with
  | bool c =>
    simp only [igR]
    cases hcb : c == b with
    | true =>
      rw [if_pos (by simpa using hcb)]
      simp only [runI, wanted]
    | false => rw [if_neg (by simpa using hcb)]
  | _ => rfl

mutual
theorem avEq_refl : ∀ a : AV, avEq a a = true
  | .bot | .nilptr | .nilslice | .nilmap | .nilfn | .niliface => rfl
  | .bool b => by simp [avEq]
  | .int k n => by simp [avEq]
  | .str s => by simp only [avEq]; exact seq8_iff.2 rfl
  | .ptr n o => by simp [avEq]
  | .slice n o l c => by simp [avEq]
  | .map n => by simp [avEq]
  | .fn f a b => by simp [avEq, avEqs_refl a, avEqs_refl b]
  | .yield l => by simp [avEq]
  | .iface t v => by simp [avEq, avEq_refl v]
  | .agg a => by simp [avEq, avEqs_refl a]
  | .tuple a => by simp [avEq, avEqs_refl a]
theorem avEqs_refl : ∀ a : List AV, avEqs a a = true
  | [] => rfl
  | x :: a => by simp [avEqs, avEq_refl x, avEqs_refl a]
end
attribute [go_sem] avEq_refl

/-- One cell is written. -/
theorem wr_cells {h : Heap} {n o ty : Nat} {loc : Bool} {cs : List AV} {v : AV} (hg : hget h n = some (.cells ty loc cs)) (hv : v.sc = true) (ho : o < cs.length) : wrCells h n o [v] = some (hset h n (.cells ty loc (cs.set o v))) := by
  simp only [wrCells, hg, List.length_singleton, List.all_cons, List.all_nil, hv, Bool.and_self, and_true, splice]
  rw [if_pos (by omega)]
theorem wr_buf {h : Heap} {n o ty es : Nat} {cs : List AV} {v : AV} (hg : hget h n = some (.buf ty es cs)) (hv : v.sc = true) (ho : o < cs.length) : wrCells h n o [v] = some (hset h n (.buf ty es (cs.set o v))) := by
  simp only [wrCells, hg, List.length_singleton, List.all_cons, List.all_nil, hv, Bool.and_self, and_true, splice]
  rw [if_pos (by omega)]
@[go_sem] theorem acells_int (k : IntKind) (n : Int) : acells (.int k n) = [.int k n] := rfl
@[go_sem] theorem acells_bool (b : Bool) : acells (.bool b) = [.bool b] := rfl
@[go_sem] theorem acells_slice (n o l : Nat) (c : Cap) : acells (.slice n o l c) = [.slice n o l c] := rfl
@[go_sem] theorem acells_nil : acells .nilslice = [.nilslice] := rfl
@[go_sem] theorem acells_str (s : List UInt8) : acells (.str s) = [.str s] := rfl
@[go_sem] theorem acells_ptr (n o : Nat) : acells (.ptr n o) = [.ptr n o] := rfl
@[go_sem] theorem acells_agg (cs : List AV) : acells (.agg cs) = cs := rfl
@[go_sem] theorem sc_int (k : IntKind) (n : Int) : (AV.int k n).sc = true := rfl
@[go_sem] theorem sc_bool (b : Bool) : (AV.bool b).sc = true := rfl
@[go_sem] theorem sc_slice (n o l : Nat) (c : Cap) : (AV.slice n o l c).sc = true := rfl
@[go_sem] theorem sc_nil : AV.nilslice.sc = true := rfl
@[go_sem] theorem sc_str (s : List UInt8) : (AV.str s).sc = true := rfl
@[go_sem] theorem sc_ptr (n o : Nat) : (AV.ptr n o).sc = true := rfl

theorem CRes.elim {r : Option (AV × St)} {Q : AV → St → Prop} (h : CRes r Q) : ∃ v s, r = some (v, s) ∧ Q v s := by
  unfold CRes at h
  split at h
  · exact ⟨_, _, rfl, h⟩
  · exact h.elim
theorem CRes.mono {r : Option (AV × St)} {Q R : AV → St → Prop} (h : CRes r Q) (hq : ∀ v s, Q v s → R v s) : CRes r R := by
  obtain ⟨v, s, rfl, h⟩ := h.elim
  exact hq _ _ h

/-- A function that only tells. -/
def Tells (T : Tab) (st : St) (f : AV) (args : List AV) (v : AV) : Prop := CRes (call T f args st) fun v' s => v' = v ∧ Ext st s

theorem Tells.use {f : AV} {args : List AV} {v : AV} {Q : AV → St → Prop} (h : Tells T st f args v) (hq : ∀ s, Ext st s → Q v s) : CRes (call T f args st) Q :=
  CRes.mono h (by rintro v' s ⟨rfl, hx⟩; exact hq s hx)

/-- A call, by its body. -/
theorem call_res {k : Nat} {mf : MFun} (hen : T.en k = none) (hf : T.fn k = some mf) {first args cap : List AV} (hl : (first ++ args ++ cap).length = mf.nargs) {Q : AV → St → Prop}
    (hr : Res (run T mf.body (argEnv 0 (first ++ args ++ cap)) st) fun x e s => (x = .norm ∨ x = .ret) ∧ ∃ v, fresults s.h e mf.results = some v ∧ Q v ⟨dropLoc st.nx s.h, s.nx⟩) :
    CRes (call T (.fn k first cap) args st) Q := by
  obtain ⟨x, e, s, h1, h2, v, h3, h4⟩ := hr.elim
  rw [call_fn hen hf hl, h1]
  rcases h2 with rfl | rfl <;> simp only [callR, h3, Option.map_some, CRes_some] <;> exact h4

theorem tells_of {k : Nat} {mf : MFun} (hen : T.en k = none) (hf : T.fn k = some mf) {first args cap : List AV} (hl : (first ++ args ++ cap).length = mf.nargs) {v : AV}
    (hr : Res (run T mf.body (argEnv 0 (first ++ args ++ cap)) st) fun x e s => (x = .norm ∨ x = .ret) ∧ fresults s.h e mf.results = some v ∧ Ext st s) :
    Tells T st (.fn k first cap) args v :=
  call_res hen hf hl (hr.mono fun _ _ _ ⟨h1, h2, h3⟩ => ⟨h1, v, h2, rfl, h3.dropLoc⟩)

theorem ORes.elim {r : Option (Env × St)} {Q : Env → St → Prop} (h : ORes r Q) : ∃ e s, r = some (e, s) ∧ Q e s := by
  unfold ORes at h
  split at h
  · exact ⟨_, _, rfl, h⟩
  · exact h.elim

@[go_sem] theorem fresults_one (h : Heap) (t : Nat) : fresults h e [.t t] = some (eget e t) := rfl
@[go_sem] theorem fresults_none (h : Heap) : fresults h e [] = some (.tuple []) := rfl
@[go_sem] theorem fresults_two (h : Heap) (t u : Nat) : fresults h e [.t t, .t u] = some (.tuple [eget e t, eget e u]) := rfl
@[go_sem] theorem fresults_three (h : Heap) (t u v : Nat) : fresults h e [.t t, .t u, .t v] = some (.tuple [eget e t, eget e u, eget e v]) := rfl
attribute [go_sem] afold aminmax argEnv List.getElem?_cons_zero List.getElem?_cons_succ

end Go.Ev

/- From the evaluator's word on a law to the model's. -/
namespace Go.Ev
open Go Go.RowKit
set_option linter.unusedSimpArgs false
set_option linter.unusedVariables false

variable {X : Cx} {T : Tab}

/-- What a law's call comes to: it returns true, and no older block is changed. -/
theorem law_calls (hT : TabOK chkD X T) (hmix : X.P.follows .mixedOrders = true) {k : Nat} {mf : MFun} (hen : T.en k = none) (hf : T.fn k = some mf) {args : List AV} {st : St} {N : Nu} {w : World} {us : List Value} (hl : args.length = mf.nargs)
    (h : CRes (call T (.fn k [] []) args st) fun v _ => v = .bool true) (hr : SR chkD X N st w) (ha : VRs X N args us) (hown : ∀ b, ¬ Own N st.h b) :
    Calls X.P (X.φ k) us.toArray w fun e w' => e = .returned (.bool true) ∧ Below w.heap.size w w' := by
  obtain ⟨v, s, h1, rfl⟩ := h.elim
  rw [call_fn hen hf (by simpa using hl)] at h1
  simp only [List.nil_append, List.append_nil] at h1
  cases hr2 : run T mf.body (argEnv 0 args) st with
  | none => rw [hr2] at h1; cases h1
  | some p =>
    obtain ⟨x, e, s2⟩ := p
    rw [hr2] at h1
    obtain ⟨n, hn⟩ := run_iff.1 hr2
    have key : (x = .norm ∨ x = .ret) ∧ fresults s2.h e mf.results = some (.bool true) := by
      cases x with
      | norm =>
        refine ⟨.inl rfl, ?_⟩
        simp only [callR] at h1
        cases hv : fresults s2.h e mf.results with
        | none => rw [hv] at h1; cases h1
        | some u => rw [hv] at h1; simp only [Option.map_some, Option.some.injEq, Prod.mk.injEq] at h1; rw [h1.1]
      | ret =>
        refine ⟨.inr rfl, ?_⟩
        simp only [callR] at h1
        cases hv : fresults s2.h e mf.results with
        | none => rw [hv] at h1; cases h1
        | some u => rw [hv] at h1; simp only [Option.map_some, Option.some.injEq, Prod.mk.injEq] at h1; rw [h1.1]
      | _ => cases h1
    exact exec_calls (exec_ok hT (drawOK hmix) n) hT hen hf hn key.1 key.2 hr ha hown

/-- No block is named yet. -/
def Nu.none : Nu := ⟨fun _ => Option.none, fun _ => 0⟩
theorem sr_none (n : Nat) (w : World) : SR chkD X Nu.none ⟨[], n⟩ w := ⟨⟨(fun n o h => by cases h), (fun n m o p a c h => by cases h)⟩, fun _ _ => rfl⟩
theorem own_none (b : Nat) : ¬ Own Nu.none [] b := fun ⟨n, o, a, h, _⟩ => by cases h

end Go.Ev

/- Short words for the printed bodies of functions. -/
namespace Go.Ev
open Go

instance (n : Nat) : OfNat AO n := ⟨.t (OfNat.ofNat n)⟩
@[go_sem] theorem ao_num (n : Nat) : (OfNat.ofNat n : AO) = .t (OfNat.ofNat n) := rfl

@[go_sem] theorem MO_nextS {st : St} (call : CallF) (ev : AO → AV) (x : AO) : MO.run call ev st (.w (.nextS x)) = WO.run call ev st (.nextS x) := rfl
@[go_sem] theorem MO_ustr {st : St} (call : CallF) (ev : AO → AV) (t : Nat) (x y : AO) : MO.run call ev st (.w (.ustr t x y)) = WO.run call ev st (.ustr t x y) := rfl

namespace B
def p (d : Nat) (o : PO) : MI := ⟨some d, none, .p o⟩
def r (d : Nat) (o : RO) : MI := ⟨some d, none, .r o⟩
def n (d : Nat) (o : NO) : MI := ⟨some d, none, .n o⟩
def w (d : Nat) (o : WO) : MI := ⟨some d, none, .w o⟩
def p0 (o : PO) : MI := ⟨none, none, .p o⟩
def r0 (o : RO) : MI := ⟨none, none, .r o⟩
def n0 (o : NO) : MI := ⟨none, none, .n o⟩
def w0 (o : WO) : MI := ⟨none, none, .w o⟩
def pg (d t : Nat) (b : Bool) (o : PO) : MI := ⟨some d, some (t, b), .p o⟩
def rg (d t : Nat) (b : Bool) (o : RO) : MI := ⟨some d, some (t, b), .r o⟩
def ng (d t : Nat) (b : Bool) (o : NO) : MI := ⟨some d, some (t, b), .n o⟩
def wg (d t : Nat) (b : Bool) (o : WO) : MI := ⟨some d, some (t, b), .w o⟩
def ph (t : Nat) (b : Bool) (o : PO) : MI := ⟨none, some (t, b), .p o⟩
def rh (t : Nat) (b : Bool) (o : RO) : MI := ⟨none, some (t, b), .r o⟩
def nh (t : Nat) (b : Bool) (o : NO) : MI := ⟨none, some (t, b), .n o⟩
def wh (t : Nat) (b : Bool) (o : WO) : MI := ⟨none, some (t, b), .w o⟩
attribute [go_sem] p r n w p0 r0 n0 w0 pg rg ng wg ph rh nh wh
end B
end Go.Ev

/- Functions of numbers, bools and strings that leave the heap alone: what the kernel finds in an empty state holds in any. -/
namespace Go.Ev
open Go
set_option linter.unusedSimpArgs false
set_option linter.unusedVariables false

variable {T T' : Tab} {st : St}

/-- No function at all. -/
def T0 : Tab := ⟨fun _ => none, fun _ => none⟩
/-- One function. -/
def T1 (k : Nat) (m : MFun) : Tab := ⟨fun i => if i = k then some m else none, fun _ => none⟩
end Go.Ev

/- An entry of the table out of a contract: a function of the library that is called. -/
namespace Go.Ev
open Go Go.RowKit
set_option linter.unusedVariables false

variable {X : Cx} {N : Nu} {D : ChkD}

theorem HR.below {h : Heap} {w w' : World} (hr : HR D X N h w) (b : Below w.heap.size w w') : HR D X N h w' :=
  ⟨fun n o ho => (hr.objs n o ho).keep (.refl N) b.size (fun a ha => b.block _ ((hr.objs n o ho).lt ha)), hr.sep⟩
theorem Gd.below {h : Heap} {w w' : World} (b : Below w.heap.size w w') : Gd N h w N h w' :=
  ⟨.refl N, b.size, b.tape, b.os, b.output, fun k hk _ => b.block k hk, fun n o a h1 h2 => .inl ⟨n, o, a, h1, h2, rfl, id⟩⟩

/-- The function is there, with a body, and none of the two that are met by name. -/
def bodyB (P : Program) (f : FuncId) : Bool :=
  match P.funcs[f]? with
  | some fn => fn.body.isSome && !(fn.name == "runtime.NumGoroutine")
  | none => false

theorem callsTo_of_calls {P : Program} {f : FuncId} {us : Array Value} {w w' : World} {u : Value} {c : Frame} {cs : List Frame} (hb : bodyB P f = true)
    (h : ∃ fr, Comes P (lone (Frame.enter P f us .normal) (c :: cs) w) (lone fr (c :: cs) w') (.returned u) ∧ fr.leaving P w' (.returned u)) : CallsTo P (callFunc f us) w c cs u w' := by
  unfold bodyB at hb
  split at hb
  case h_2 => cases hb
  rename_i fn hf
  simp only [Bool.and_eq_true, Bool.not_eq_true'] at hb
  obtain ⟨body, hbody⟩ := Option.isSome_iff_exists.1 hb.1
  obtain ⟨fr, h1, h2⟩ := h
  have hcf : (callFunc f us).run P w = .ok (.enter f us) w := by
    have hname' : ¬ fn.name = "runtime.NumGoroutine" := by simpa using hb.2
    simp [callFunc, hf, hname', hbody]
  refine ⟨.enter f us, w, hcf, .inr (.inl ⟨_, _, rfl, ?_⟩)⟩
  exact Steps.trans h1 (.one (step_leave_returned h2))

/-- A contract of the shelf's kind makes an entry. -/
theorem entry_of_calls {f : Nat} {F : Entry} (hb : bodyB X.P (X.φ f) = true)
    (h : ∀ args st v st', F args st = some (v, st') → st' = st ∧ ∀ N us, VRs X N args us → ∃ u, VR X N v u ∧ ∀ w, Calls X.P (X.φ f) us.toArray w fun e w' => e = .returned u ∧ Below w.heap.size w w') : EntryOK D X f F := by
  intro args st v st' hF N w us hr hv c cs
  obtain ⟨rfl, h1⟩ := h args st v st' hF
  obtain ⟨u, hu, h2⟩ := h1 N us hv
  obtain ⟨e, w', fr, ⟨rfl, hbel⟩, hc, _, hl⟩ := h2 w (c :: cs)
  exact ⟨N, u, w', hu, ⟨hr.hr.below hbel, hr.fresh⟩, Gd.below hbel, Nat.le_refl _, fun _ _ => rfl, callsTo_of_calls hb ⟨fr, hc, hl⟩⟩

end Go.Ev

/- strings.Repeat as an entry of the table. -/
namespace Go.Ev
open Go Go.RowKit
set_option linter.unusedVariables false

variable {X : Cx} {D : ChkD} {T : Tab} {st : St}

end Go.Ev

/- Functions of the library as entries of the table: what each answers, and how a contract or a plain run makes the entry. -/
namespace Go.Ev
open Go Go.RowKit
set_option linter.unusedVariables false

variable {X : Cx} {D : ChkD} {T : Tab} {st : St}

/-- An entry of the machine's own, that leaves the world alone. -/
theorem entry_of_extern {f : Nat} {F : Entry} {fn : Func} {e : Array Value → Sem Value} (hf : X.P.funcs[X.φ f]? = some fn) (hname : (fn.name == "runtime.NumGoroutine") = false) (hb : fn.body.isNone = true)
    (hn : Extern.findNext fn = none) (he : Extern.find fn = some e)
    (h : ∀ args st v st', F args st = some (v, st') → st' = st ∧ ∀ N us, VRs X N args us → ∃ u, VR X N v u ∧ ∀ w, (e us.toArray).run X.P w = .ok u w) : EntryOK D X f F := by
  intro args st v st' hF N w us hr hv c cs
  obtain ⟨rfl, h1⟩ := h args st v st' hF
  obtain ⟨u, hu, h2⟩ := h1 N us hv
  have h3 := run_callFunc_extern hf hname hb hn he us.toArray w
  rw [h2 w] at h3
  exact ⟨N, u, w, hu, hr, .refl _ _ _, Nat.le_refl _, fun _ _ => rfl, .value u, w, h3, .inl ⟨rfl, rfl⟩⟩

namespace B
/-- A pointer as it is. -/
def E_abi_NoEscape : Entry := fun args st => match args with
  | [.ptr n o] => some (.ptr n o, st)
  | _ => none
def E_strings_IndexByte : Entry := fun args st => match args with
  | [.str s, .int .u8 c] => some (.int .i64 (Lib.indexByte s c.toNat.toUInt8), st)
  | _ => none
/-- The number of the table of powers of ten that strconv reads. -/
def gPow10 : Nat := 4
def av64 : AV → Option Int
  | .int .u64 n => some n
  | _ => none
end B

theorem noescape_entry {f : Nat} {fn : Func} (hf : X.P.funcs[X.φ f]? = some fn) (hname : (fn.name == "runtime.NumGoroutine") = false) (hb : fn.body.isNone = true)
    (hn : Extern.findNext fn = none) (he : Extern.find fn = some Extern.AbiNoEscape.same) : EntryOK D X f B.E_abi_NoEscape := by
  refine entry_of_extern hf hname hb hn he fun args st v st' hF => ?_
  unfold B.E_abi_NoEscape at hF
  split at hF
  case h_2 => cases hF
  cases hF
  refine ⟨rfl, fun N us hus => ?_⟩
  obtain ⟨u0, us0, rfl, h0, rfl⟩ := hus
  exact ⟨u0, h0, fun w => rfl⟩

theorem indexByte_entry {f : Nat} (hb : bodyB X.P (X.φ f) = true)
    (h : ∀ (s : ByteArray) (c : Int) (w : World), Calls X.P (X.φ f) #[.string s, .int .u8 c] w fun e w' => e = .returned (.int .i64 (Lib.indexByte s.data.toList c.toNat.toUInt8)) ∧ w' = w) : EntryOK D X f B.E_strings_IndexByte := by
  refine entry_of_calls hb fun args st v st' hF => ?_
  unfold B.E_strings_IndexByte at hF
  split at hF
  case h_2 => cases hF
  cases hF
  refine ⟨rfl, fun N us hus => ?_⟩
  obtain ⟨u0, us0, rfl, h0, u1, us1, rfl, h1, rfl⟩ := hus
  cases h0
  cases h1
  refine ⟨_, rfl, fun w => ?_⟩
  refine (h ⟨_⟩ _ w).mono fun e w' ⟨h1, h2⟩ => ⟨by simpa using h1, ?_⟩
  subst h2
  exact Below.refl _ _

end Go.Ev

/- The abstract bodies of the functions, printed by a program of this work. -/
namespace Go.Ev.B
open Go
def chaseref03_Number_l0 : MCode := (.seq (.keep [0, 2, 7]) (.seq (.seq (.reg [p 45 (.mov 7), p 46 (.bin .leq 45 (.k (.int .i64 2))), p 47 (.mov 46), pg 48 47 true (.mov 7), pg 49 47 
  true (.mov 0), pg 50 47 true (.lenOf true 49), pg 51 47 true (.bin .lss 48 50), p 52 (.pick 47 51 (.k (.bool false)))]) (.cond 52 .skip (.exit 0))) (.seq (.keep [0, 2, 7]) (.seq (.block 
  1 (.seq (.reg [p 55 (.mov 0), p 56 (.mov 7), p 57 (.subS 55 none (some 56)), w 58 (.call (.k (.fn 78 [] [])) [57, (.k (.int .i64 10))]), p 8 (.mov 58)]) (.seq (.reg [p 59 (.mov 0), 
  p 60 (.mov 7), p 61 (.idxS 59 60), p 62 (.bin .eql 61 (.k (.int .u8 35))), p 63 (.mov 62), pg 64 63 true (.mov 8), pg 65 63 true (.bin .geq 64 (.k (.int .i64 2))), p 66 (.pick 63 65 
  (.k (.bool false))), p 67 (.mov 66), pg 68 67 true (.mov 8), pg 69 67 true (.bin .leq 68 (.k (.int .i64 36))), p 70 (.pick 67 69 (.k (.bool false))), p 71 (.mov 70), pg 72 71 true (.mov 
  0), pg 73 71 true (.mov 7), pg 74 71 true (.bin .add 73 (.k (.int .i64 1))), pg 75 71 true (.subS 72 (some 74) none), pg 76 71 true (.mov 8), wg 77 71 true (.call (.k (.fn 78 [] [])) 
  [75, 76]), pg 78 71 true (.bin .geq 77 (.k (.int .i64 0))), p 79 (.pick 71 78 (.k (.bool false)))]) (.seq (.keep [0, 2, 7, 8, 79]) (.cond 79 (.seq (.reg [p 80 (.mov 0), p 81 (.mov 7), 
  p 82 (.bin .add 81 (.k (.int .i64 1))), p 83 (.subS 80 (some 82) none), p 84 (.mov 8), w 85 (.call (.k (.fn 78 [] [])) [83, 84]), p 86 (.mov 0), p 87 (.lenOf true 86), w 88 (.call (.k 
  (.fn 79 [] [])) [85, 87]), p 89 (.extr 0 88), p 90 (.extr 1 88), w0 (.store 3 2 89), p 3 (.mov 90)]) .ret) .skip))))) (.seq (.keep [0, 2, 7]) (.reg [p 53 (.mov 7), p 54 (.bin .add 53 
  (.k (.int .i64 1))), p 7 (.mov 54)]))))))
def chaseref03_Number : MFun := ⟨1, [.cell 2 (some 3), .t 3], (.seq (.reg [n 2 (.alloc 134 true [(.int .i64 0), (.int .i64 0), (.str [])]), p 3 (.mov (.k (.int .i64 0)))]) (.seq (.reg 
  [p 15 (.mov 0), p 4 (.mov 15), p 5 (.mov (.k (.int .i64 1)))]) (.seq (.seq (.reg [p 16 (.mov 0), p 17 (.bin .neq 16 (.k (.str []))), p 18 (.mov 17), pg 19 18 true (.mov 0), pg 20 18 
  true (.idxS 19 (.k (.int .i64 0))), pg 21 18 true (.bin .eql 20 (.k (.int .u8 45))), pg 22 18 true (.mov 21), pg 23 22 false (.mov 0), pg 24 22 false (.idxS 23 (.k (.int .i64 0))), 
  pg 25 22 false (.bin .eql 24 (.k (.int .u8 43))), pg 26 18 true (.pick 22 (.k (.bool true)) 25), p 27 (.pick 18 26 (.k (.bool false)))]) (.seq (.keep [0, 2, 4, 5, 27]) (.cond 27 (.seq 
  (.reg [p 28 (.mov 0), p 29 (.subS 28 (some (.k (.int .i64 1))) none), p 4 (.mov 29)]) (.seq (.reg [p 30 (.mov 0), p 31 (.idxS 30 (.k (.int .i64 0))), p 32 (.bin .eql 31 (.k (.int .u8 
  45)))]) (.cond 32 (.reg [p 5 (.mov (.k (.int .i64 (-1))))]) .skip))) .skip))) (.seq (.keep [0, 2, 4, 5]) (.seq (.seq (.reg [p 33 (.mov 4), w 34 (.call (.k (.fn 78 [] [])) [33, (.k (.int 
  .i64 10))]), p 6 (.mov 34)]) (.seq (.reg [p 35 (.mov 6), p 36 (.bin .geq 35 (.k (.int .i64 0)))]) (.cond 36 (.seq (.reg [p 37 (.mov 5), p 38 (.mov 6), p 39 (.bin .mul 37 38), p 40 (.mov 
  0), p 41 (.lenOf true 40), w 42 (.call (.k (.fn 79 [] [])) [39, 41]), p 43 (.extr 0 42), p 44 (.extr 1 42), w0 (.store 3 2 43), p 3 (.mov 44)]) .ret) .skip))) (.seq (.keep [0, 2]) (.seq 
  (.seq (.reg [p 7 (.mov (.k (.int .i64 1)))]) (.block 0 (.loop chaseref03_Number_l0))) (.seq (.keep [0, 2]) (.seq (.reg [p 92 (.mov 0), w 93 (.call (.k (.fn 80 [] [])) [92]), p 91 (.mov 
  93), p 94 (.extr 0 91), p 95 (.extr 1 91), p 96 (.extr 2 91), p 97 (.extr 3 91), p 9 (.mov 94), p 10 (.mov 95), p 11 (.mov 96), p 12 (.mov 97)]) (.seq (.keep [0, 2, 12]) (.seq (.seq 
  (.reg [p 98 (.mov 12), p 99 (.un .not 98)]) (.cond 99 (.seq (.reg [p 100 (.build [(.int .i64 0), (.int .i64 0), (.str [])] []), w0 (.store 3 2 100), p 3 (.mov (.k (.int .i64 5)))]) 
  .ret) .skip)) (.seq (.reg [p 102 (.mov 0), w 103 (.call (.k (.fn 81 [] [])) [102]), p 101 (.mov 103), p 104 (.extr 0 101), p 105 (.extr 1 101), p 13 (.mov 104), p 14 (.mov 105)]) (.seq 
  (.seq (.reg [p 106 (.mov 14), p 107 (.bin .neq 106 (.k (.int .i64 0)))]) (.cond 107 (.seq (.reg [p 108 (.build [(.int .i64 0), (.int .i64 0), (.str [])] []), w0 (.store 3 2 108), p 
  3 (.mov (.k (.int .i64 26)))]) .ret) .skip)) (.seq (.reg [p 109 (.mov 13), p 110 (.build [(.int .i64 0), (.int .i64 0), (.str [])] [(0, 1, (.k (.int .i64 2))), (1, 1, 109)]), w0 (.store 
  3 2 110), p 3 (.mov (.k (.int .i64 0)))]) .ret))))))))))))))⟩

def strings_Builder_WriteByte : MFun := ⟨2, [.t 4], (.seq (.reg [p 4 (.mov (.k .niliface))]) (.seq (.reg [p 5 (.mov 0), w 6 (.call (.k (.fn 109 [] [])) [5])]) (.seq (.reg [p 7 (.mov 
  0), p 8 (.mov 0), p 9 (.nilck 8), p 10 (.faddr 1 9), r 11 (.load none 10), p 12 (.mov 1), n 13 (.buildSl 5 1 [(.int .u8 0)] [(0, 1, 12)]), w 14 (.append 5 1 1 [(.int .u8 0)] 11 13), 
  p 15 (.nilck 7), p 16 (.faddr 1 15), w0 (.store 1 16 14)]) (.seq (.keep []) (.seq (.reg [p 4 (.mov (.k .niliface))]) .ret)))))⟩

def strings_Builder_String : MFun := ⟨1, [.t 2], (.seq (.reg [p 2 (.mov (.k (.str [])))]) (.seq (.regd [.op 0 (p 3 (.mov 0)), .op 1 (p 4 (.nilck 3)), .op 2 (p 5 (.faddr 1 4)), .op 3 
  (r 6 (.load none 5)), .op 5 (p 8 (.mov 0)), .op 6 (p 9 (.nilck 8)), .op 7 (p 10 (.faddr 1 9)), .op 8 (r 11 (.load none 10)), .op 4 (p 7 (.sldata 6)), .op 9 (p 12 (.lenOf false 11)), 
  .op 10 (w 13 (.ustr 5 7 12)), .op 11 (p 2 (.mov 13))]) .ret))⟩

def strings_Builder_copyCheck : MFun := ⟨1, [], (.seq (.reg [p 2 (.mov 0), p 3 (.nilck 2), p 4 (.faddr 0 3), r 5 (.load none 4), p 6 (.eqN false 0 5 (.k .nilptr))]) (.cond 6 (.reg [p 
  7 (.mov 0), p 8 (.mov 0), r 9 (.toU 8), w 10 (.call (.k (.fn 118 [] [])) [9]), r 11 (.ofU 84 2 10), p 12 (.nilck 7), p 13 (.faddr 0 12), w0 (.store 1 13 11)]) (.seq (.reg [p 14 (.mov 
  0), p 15 (.nilck 14), p 16 (.faddr 0 15), r 17 (.load none 16), p 18 (.mov 0), p 19 (.eqN true 0 17 18)]) (.cond 19 .stuck .skip))))⟩

structure H_strings_IndexByte (T : Tab) : Prop where
  en : T.en 84 = some E_strings_IndexByte
structure H_abi_NoEscape (T : Tab) : Prop where
  en : T.en 118 = some E_abi_NoEscape
structure H_strings_Builder_String (T : Tab) : Prop where
  e : T.en 92 = none
  f : T.fn 92 = some strings_Builder_String
structure H_strings_Builder_copyCheck (T : Tab) : Prop where
  e : T.en 109 = none
  f : T.fn 109 = some strings_Builder_copyCheck
  abi_NoEscape : H_abi_NoEscape T
structure H_strings_Builder_WriteByte (T : Tab) : Prop where
  e : T.en 91 = none
  f : T.fn 91 = some strings_Builder_WriteByte
  strings_Builder_copyCheck : H_strings_Builder_copyCheck T
end Go.Ev.B

/- Lists that grow: a slice value, and the cells that it holds. -/
namespace Go.Ev
open Go
set_option linter.unusedSimpArgs false
set_option linter.unusedVariables false

variable {T : Tab} {st : St}

theorem Res.and {r : Option (Ex × Env × St)} {P Q : Ex → Env → St → Prop} (a : Res r P) (b : Res r Q) : Res r fun x e s => P x e s ∧ Q x e s := by
  unfold Res at *
  split at a
  · exact ⟨a, b⟩
  · exact a.elim
theorem Frm.both {S R : List Nat} {st st' : St} (a : Frm S st st') (b : Frm R st st') (h : ∀ n ∈ S, n ∈ R → st.nx ≤ n) : Ext st st' :=
  ⟨a.nx, a.wf, fun n hn => by
    by_cases h1 : n ∈ S
    · by_cases h2 : n ∈ R
      · have := h n h1 h2; omega
      · exact b.keep n hn h2
    · exact a.keep n hn h1⟩
theorem Frm.hdel (h : st.Wf) (n : Nat) : Frm [n] st ⟨hdel st.h n, st.nx⟩ :=
  ⟨Nat.le_refl _, ⟨fun m q hq => by
    rw [hget_hdel] at hq
    split at hq
    · cases hq
    · exact h.lt _ _ hq, h.nd.sublist hdel_sub⟩, fun m hm hs => by
    rw [hget_hdel, if_neg]
    rintro rfl
    exact hs List.mem_cons_self⟩
theorem Frm.refl (h : st.Wf) (S : List Nat) : Frm S st st := (Ext.refl h).fr S

/-- A new object is written. -/
theorem Ext.setNew {st s : St} (a : Ext st s) {n : Nat} {o p : AObj} (hg : hget s.h n = some p) (hn : st.nx ≤ n) : Ext st ⟨hset s.h n o, s.nx⟩ :=
  ((a.fr []).trans (Frm.set a.wf hg) (fun m hm => .inr (by simp at hm; omega))).ext (by simp)

/-- What a slice holds: nothing, a block that has grown, or a block just made. -/
inductive SlAt (h : Heap) (v : AV) (n ty es k : Nat) (cs : List AV) : Prop where
  | nil : v = .nilslice → cs = [] → k = 0 → SlAt h v n ty es k cs
  | buf : v = .slice n 0 k .full → hget h n = some (.buf ty es cs) → cs.length = k * es → SlAt h v n ty es k cs
  | made (ty' : Nat) : v = .slice n 0 k (.known k) → hget h n = some (.cells ty' false cs) → cs.length = k * es → SlAt h v n ty es k cs

theorem SlAt.len {h : Heap} {v : AV} {n ty es k : Nat} {cs : List AV} (a : SlAt h v n ty es k cs) : cs.length = k * es := by
  rcases a with ⟨_, h2, h3⟩ | ⟨_, _, h⟩ | ⟨_, _, _, h⟩
  · subst h2; subst h3; simp
  · exact h
  · exact h

/-- The slice itself, seen by another state. -/
theorem SlAt.frm {st st' : St} {v : AV} {n ty es k : Nat} {cs : List AV} {S : List Nat} (a : SlAt st.h v n ty es k cs) (f : Frm S st st') (hw : st.Wf) (hn : n ∉ S) : SlAt st'.h v n ty es k cs := by
  rcases a with ⟨h1, h2, h3⟩ | ⟨h1, h2, h3⟩ | ⟨ty', h1, h2, h3⟩
  · exact .nil h1 h2 h3
  · exact .buf h1 (f.get hw h2 hn) h3
  · exact .made ty' h1 (f.get hw h2 hn) h3
theorem SlAt.ext {st st' : St} {v : AV} {n ty es k : Nat} {cs : List AV} (a : SlAt st.h v n ty es k cs) (f : Ext st st') (hw : st.Wf) : SlAt st'.h v n ty es k cs := a.frm (f.fr []) hw (by simp)

theorem SlAt.lenOf {h : Heap} {v : AV} {n ty es k : Nat} {cs : List AV} {ev : AO → AV} {x : AO} (a : SlAt h v n ty es k cs) (hx : ev x = v) : PO.run ev (.lenOf false x) = some (.int .i64 k) := by
  rcases a with ⟨h1, h2, h3⟩ | ⟨h1, h2, h3⟩ | ⟨ty', h1, h2, h3⟩
  · subst h3; simp [PO.run, hx, h1]
  · simp [PO.run, hx, h1]
  · simp [PO.run, hx, h1]

theorem SlAt.src {h : Heap} {v : AV} {n ty es k : Nat} {cs : List AV} (a : SlAt h v n ty es k cs) : srcCells h es v = some (k, cs) := by
  rcases a with ⟨h1, h2, h3⟩ | ⟨h1, h2, h3⟩ | ⟨ty', h1, h2, h3⟩
  · subst h1; subst h2; subst h3; rfl
  · subst h1; simp only [srcCells, rdCells, h2]; rw [if_pos (by omega)]; simp [← h3]
  · subst h1; simp only [srcCells, rdCells, h2]; rw [if_pos (by omega)]; simp [← h3]

/-- What append makes. -/
structure Grown (st : St) (n ty es k : Nat) (cs : List AV) (v : AV) (s : St) (n' : Nat) : Prop where
  sl : SlAt s.h v n' ty es k cs
  frm : Frm [n] st s
  new : n' = n ∨ st.nx ≤ n'
  lt : n < st.nx → n' < s.nx

theorem SlAt.append (hwf : st.Wf) {v x : AV} {n ty es k j b : Nat} {cs new : List AV} (a : SlAt st.h v n ty es k cs) (hx : srcCells st.h es x = some (j, new)) (hj : new.length = j * es)
    (hsc : new.all AV.sc = true) (hb : (k + j) * b ≤ 35184372088832) (hb' : k + j ≤ 35184372088832) (hm : 0 < j ∨ ¬ ∃ c, v = .slice n 0 k (.known c)) :
    CRes (aappend ty es b st v x) fun v' s => ∃ n', Grown st n ty es (k + j) (cs ++ new) v' s n' := by
  unfold aappend
  rw [hx]
  simp only
  have hnil0 : j = 0 → new = [] := fun h => List.length_eq_zero_iff.1 (by rw [hj, h]; simp)
  rcases a with ⟨h1, h2, h3⟩ | ⟨h1, h2, h3⟩ | ⟨ty', h1, h2, h3⟩
  · subst h1; subst h2; subst h3
    simp only [Nat.zero_add] at hb hb' ⊢
    by_cases hj0 : j = 0
    · rw [if_pos hj0]
      exact ⟨n, .nil rfl (by rw [hnil0 hj0]; rfl) hj0, .refl hwf _, .inl rfl, id⟩
    · rw [if_neg hj0, if_pos ⟨hb, hb'⟩]
      refine ⟨st.nx, .buf rfl (by simp [hget]) (by simpa using hj), (Ext.new hwf _).fr _, .inr (Nat.le_refl _), fun _ => Nat.lt_succ_self _⟩
  · subst h1
    simp only
    rw [if_pos ⟨hb, hb'⟩]
    simp only [h2]
    rw [if_pos ⟨trivial, trivial, trivial, h3, hsc⟩]
    by_cases hj0 : j = 0
    · rw [if_pos hj0]
      refine ⟨n, ?_, .refl hwf _, .inl rfl, id⟩
      subst hj0
      rw [hnil0 rfl]
      exact .buf rfl (by simpa using h2) (by simpa using h3)
    · rw [if_neg hj0]
      refine ⟨st.nx, .buf rfl (by simp [hget]) (by simp [h3, hj, Nat.add_mul]), ?_, .inr (Nat.le_refl _), fun _ => Nat.lt_succ_self _⟩
      exact (Frm.hdel hwf n).trans ((Ext.new (Frm.hdel hwf n).wf _).fr [n]) (by simp)
  · subst h1
    simp only
    have hj0 : 0 < j := by
      rcases hm with h | h
      · exact h
      · exact absurd ⟨k, rfl⟩ h
    rw [if_pos ⟨hb, hb'⟩, if_neg (by omega)]
    simp only [rdCells, h2]
    rw [if_pos (by omega)]
    refine ⟨st.nx, .buf rfl (by simp [hget, ← h3]) (by simp [h3, hj, Nat.add_mul]), (Ext.new hwf _).fr _, .inr (Nat.le_refl _), fun _ => Nat.lt_succ_self _⟩

theorem SlAt.store (hwf : st.Wf) {v : AV} {n ty es k : Nat} {cs : List AV} (a : SlAt st.h v n ty es k cs) {o : Nat} (ho : o < cs.length) {x : AV} (hx : x.sc = true) :
    ∃ h', wrCells st.h n o [x] = some h' ∧ SlAt h' v n ty es k (cs.set o x) ∧ Frm [n] st ⟨h', st.nx⟩ := by
  rcases a with ⟨h1, h2, h3⟩ | ⟨h1, h2, h3⟩ | ⟨ty', h1, h2, h3⟩
  · subst h2; simp at ho
  · exact ⟨_, wr_buf h2 hx ho, .buf h1 (by rw [hget_hset h2, if_pos rfl]) (by simpa using h3), .set hwf h2⟩
  · exact ⟨_, wr_cells h2 hx ho, .made ty' h1 (by rw [hget_hset h2, if_pos rfl]) (by simpa using h3), .set hwf h2⟩

/-- What a slice holds stays when a call's own blocks go. -/
theorem SlAt.dropLoc (hwf : st.Wf) {v : AV} {n ty es k c : Nat} {cs : List AV} (a : SlAt st.h v n ty es k cs) : SlAt (Go.Ev.dropLoc c st.h) v n ty es k cs := by
  rcases a with ⟨h1, h2, h3⟩ | ⟨h1, h2, h3⟩ | ⟨ty', h1, h2, h3⟩
  · exact .nil h1 h2 h3
  · exact .buf h1 (hget_dropLoc_keep hwf h2 rfl) h3
  · exact .made ty' h1 (hget_dropLoc_keep hwf h2 rfl) h3
theorem rd_all {h : Heap} {n ty k : Nat} {l : Bool} {cs : List AV} (hg : hget h n = some (.cells ty l cs)) (hk : cs.length = k) : rdCells h n 0 k = some cs := by
  simp only [rdCells, hg]
  rw [if_pos (by omega), List.drop_zero, List.take_of_length_le (by omega)]
attribute [go_sem] RO.run NO.run WO.run afill splice AV.nb apart

end Go.Ev

/- What the functions of lex tell: octets, regular characters, digits. -/
namespace Go.Ev
open Go
set_option linter.unusedSimpArgs false
set_option linter.unusedSectionVars false
set_option linter.unusedVariables false

theorem wrap64' {n : Int} (h1 : -9223372036854775808 ≤ n) (h2 : n ≤ 9223372036854775807) : IntKind.i64.wrap n = n := wrap64_id h1 h2

variable {T : Tab} {st : St}

/-- Octets that are not regular, but for 128 to 159. -/
def marks : List UInt8 := [0, 9, 10, 12, 13, 32, 40, 41, 60, 62, 91, 93, 123, 125, 47, 37]
def isReg (c : UInt8) : Bool := !(decide (128 ≤ c.toNat) && decide (c.toNat < 160)) && decide (Lib.indexByte marks c < 0)

/-- All of a string's octets are regular. -/
def regAll : List UInt8 → Bool
  | [] => true
  | c :: r => isReg c && regAll r

end Go.Ev

/- Loops over functions on symbolic data. -/
namespace Go.Ev
open Go
set_option linter.unusedSimpArgs false
set_option linter.unusedVariables false

variable {T : Tab} {e : Env} {st : St}

@[go_sem] theorem bindEnv_one (e : Env) (t : Nat) (v : AV) : bindEnv e [t] [v] = (t, v) :: e := rfl
@[go_sem] theorem bindEnv_two (e : Env) (t u : Nat) (v w : AV) : bindEnv e [t, u] [v, w] = (u, w) :: (t, v) :: e := rfl

end Go.Ev

/- Parts of strings. -/
namespace Go.Ev
open Go
@[go_sem] theorem acells_fn (f : Nat) (a b : List AV) : acells (.fn f a b) = [.fn f a b] := rfl
@[go_sem] theorem acells_map (n : Nat) : acells (.map n) = [.map n] := rfl
@[go_sem] theorem acells_nilptr : acells .nilptr = [.nilptr] := rfl
@[go_sem] theorem acells_nilmap : acells .nilmap = [.nilmap] := rfl
@[go_sem] theorem acells_nilfn : acells .nilfn = [.nilfn] := rfl
@[go_sem] theorem acells_niliface : acells .niliface = [.niliface] := rfl
@[go_sem] theorem sc_fn (f : Nat) (a b : List AV) : (AV.fn f a b).sc = true := rfl
@[go_sem] theorem sc_map (n : Nat) : (AV.map n).sc = true := rfl
@[go_sem] theorem sc_nilptr : AV.nilptr.sc = true := rfl
@[go_sem] theorem sc_nilmap : AV.nilmap.sc = true := rfl
@[go_sem] theorem sc_nilfn : AV.nilfn.sc = true := rfl
@[go_sem] theorem sc_niliface : AV.niliface.sc = true := rfl
theorem hget_hset_ne {h : Heap} {n m : Nat} {o p : AObj} (hg : hget h n = some p) (hne : n ≠ m) : hget (hset h n o) m = hget h m := by
  rw [hget_hset hg, if_neg hne]
theorem hget_hset_self {h : Heap} {n : Nat} {o p : AObj} (hg : hget h n = some p) : hget (hset h n o) n = some o := by
  rw [hget_hset hg, if_pos rfl]
theorem Ext.frm {S : List Nat} {st s s' : St} (a : Ext st s) (b : Frm S s s') (h : ∀ n ∈ S, st.nx ≤ n) : Ext st s' :=
  ⟨Nat.le_trans a.nx b.nx, b.wf, fun n hn => by
    rw [b.keep n (Nat.lt_of_lt_of_le hn a.nx) (fun hs => by have := h n hs; omega), a.keep n hn]⟩
theorem seq_cut {T : Tab} {A C : MCode} {e : Env} {st : St} {Q : Ex → Env → St → Prop} (P : Ex → Env → St → Prop) (hA : ∀ l, A ≠ .keep l) (h1 : Res (run T A e st) P) (h2 : ∀ x e s, P x e s → kSeq T C Q x e s) : Res (run T (.seq A C) e st) Q := by
  rw [run_seq' hA, Res_seqR]
  exact h1.mono h2
theorem rd_one {h : Heap} {n ty : Nat} {l : Bool} {v : AV} (hg : hget h n = some (.cells ty l [v])) : rdCell h n 0 = some v := by simp [rdCell, hg]
end Go.Ev

/- Digits are counted: lex.count and the reference's count. -/
namespace Go.Ev
open Go
set_option linter.unusedSimpArgs false
set_option linter.unusedSectionVars false
set_option linter.unusedVariables false

variable {T : Tab} {st : St}

/-- A digit's value in bases up to 36; 99 for other octets. -/
def digV (c : UInt8) : Nat := if 48 ≤ c.toNat ∧ c.toNat ≤ 57 then c.toNat - 48 else if 97 ≤ c.toNat ∧ c.toNat ≤ 122 then c.toNat - 87 else if 65 ≤ c.toNat ∧ c.toNat ≤ 90 then c.toNat - 55 else 99

/-- What count comes to: the number so far, from the digits that are left. -/
def cntFrom (cap : Nat) (base : Int) : Nat → List UInt8 → Option Nat
  | n, [] => some n
  | n, c :: r => if (digV c : Int) ≥ base then none else cntFrom cap base (min (n * base.toNat + digV c) cap) r

def cntS (base : Int) (s : List UInt8) : Nat × Bool :=
  match cntFrom 1099511627776 base 0 s with
  | some n => (n, !decide (s = []))
  | none => (0, false)

end Go.Ev

/- Number texts: ints, with and without a base. -/
namespace Go.Ev
open Go
set_option linter.unusedSimpArgs false
set_option linter.unusedSectionVars false
set_option linter.unusedVariables false

variable {T : Tab} {st : St}

attribute [go_sem] afill splice AV.nb apart

/-- The text behind a sign, and what it is multiplied by. -/
def unsign : List UInt8 → List UInt8 × Int
  | 45 :: r => (r, -1)
  | 43 :: r => (r, 1)
  | s => (s, 1)

end Go.Ev

/- Radix texts. -/
namespace Go.Ev
open Go
set_option linter.unusedSimpArgs false
set_option linter.unusedSectionVars false
set_option linter.unusedVariables false

variable {T : Tab} {st : St}

/-- What lies ahead of the first octet of a kind, what behind it, and whether there is one. -/
def cutS (d : UInt8) (s : List UInt8) : List UInt8 × List UInt8 × Bool :=
  if 0 ≤ Lib.indexByte s d then (s.take (Lib.indexByte s d).toNat, s.drop ((Lib.indexByte s d).toNat + 1), true) else (s, [], false)

end Go.Ev

/- Slices by what they hold, whatever their block is called. -/
namespace Go.Ev
open Go
set_option linter.unusedSimpArgs false
set_option linter.unusedVariables false

variable {T : Tab} {st : St}

/-- The block of a slice. -/
def AV.nms : AV → List Nat
  | .slice n _ _ _ => [n]
  | _ => []

/-- A slice that can grow. -/
def Sl (s : St) (v : AV) (ty es k : Nat) (cs : List AV) : Prop := ∃ n, SlAt s.h v n ty es k cs
/-- A slice that can be read. -/
def Rd (h : Heap) (v : AV) (es k : Nat) (cs : List AV) : Prop := (v = .nilslice ∧ k = 0 ∧ cs = []) ∨ ∃ n off cp, v = .slice n off k cp ∧ rdCells h n off (k * es) = some cs
/-- Its block is one of these, or new. -/
def Mine (S : List Nat) (st : St) (v : AV) : Prop := ∀ n ∈ v.nms, n ∈ S ∨ st.nx ≤ n

theorem Sl.nil (s : St) (ty es : Nat) : Sl s .nilslice ty es 0 [] := ⟨0, .nil rfl rfl rfl⟩
theorem Mine.nil (S : List Nat) (s : St) : Mine S s .nilslice := fun n h => by cases h
theorem Mine.mono {S R : List Nat} {st s : St} {v : AV} (a : Mine S s v) (h : ∀ n ∈ S, n ∈ R ∨ st.nx ≤ n) (hn : st.nx ≤ s.nx) : Mine R st v := fun n hm => by
  rcases a n hm with h1 | h1
  · exact h n h1
  · exact .inr (Nat.le_trans hn h1)
theorem Mine.ext {S : List Nat} {st s : St} {v : AV} (a : Mine S s v) (hn : st.nx ≤ s.nx) : Mine S st v := a.mono (fun n h => .inl h) hn

theorem rdCells_len {h : Heap} {n off c : Nat} {cs : List AV} (a : rdCells h n off c = some cs) : cs.length = c := by
  unfold rdCells at a
  split at a
  all_goals
    first
    | (split at a
       · injection a with a; rw [← a]; simp; omega
       · cases a)
    | cases a
theorem rdCells_some {h : Heap} {n off c : Nat} {cs : List AV} (a : rdCells h n off c = some cs) : ∃ o, hget h n = some o := by
  unfold rdCells at a
  split at a
  · exact ⟨_, by assumption⟩
  · exact ⟨_, by assumption⟩
  · exact ⟨_, by assumption⟩
  · cases a

theorem Rd.len {h : Heap} {v : AV} {es k : Nat} {cs : List AV} (a : Rd h v es k cs) : cs.length = k * es := by
  rcases a with ⟨_, h2, h3⟩ | ⟨n, off, cp, _, h2⟩
  · subst h2; subst h3; simp
  · exact rdCells_len h2
theorem Rd.lenOf {h : Heap} {v : AV} {es k : Nat} {cs : List AV} {ev : AO → AV} {x : AO} (a : Rd h v es k cs) (hx : ev x = v) : PO.run ev (.lenOf false x) = some (.int .i64 k) := by
  rcases a with ⟨h1, h2, h3⟩ | ⟨n, off, cp, h1, h2⟩
  · subst h2; simp [PO.run, hx, h1]
  · simp [PO.run, hx, h1]
theorem Rd.src {h : Heap} {v : AV} {es k : Nat} {cs : List AV} (a : Rd h v es k cs) : srcCells h es v = some (k, cs) := by
  rcases a with ⟨h1, h2, h3⟩ | ⟨n, off, cp, h1, h2⟩
  · subst h1; subst h2; subst h3; rfl
  · subst h1; simp only [srcCells, h2, Option.map_some]
theorem Rd.frm {st st' : St} {v : AV} {es k : Nat} {cs : List AV} {S : List Nat} (a : Rd st.h v es k cs) (f : Frm S st st') (hw : st.Wf) (hn : ∀ n ∈ v.nms, n ∉ S) : Rd st'.h v es k cs := by
  rcases a with ⟨h1, h2, h3⟩ | ⟨n, off, cp, h1, h2⟩
  · exact .inl ⟨h1, h2, h3⟩
  · refine .inr ⟨n, off, cp, h1, ?_⟩
    obtain ⟨o, ho⟩ := rdCells_some h2
    have := f.get hw ho (hn n (by simp [h1, AV.nms]))
    unfold rdCells at h2 ⊢
    rw [ho] at h2
    rw [this]
    exact h2
theorem Rd.ext {st st' : St} {v : AV} {es k : Nat} {cs : List AV} (a : Rd st.h v es k cs) (f : Ext st st') (hw : st.Wf) : Rd st'.h v es k cs := a.frm (f.fr []) hw (by simp)
theorem Rd.lt {v : AV} {es k : Nat} {cs : List AV} (a : Rd st.h v es k cs) (hw : st.Wf) : ∀ n ∈ v.nms, n < st.nx := by
  rcases a with ⟨h1, h2, h3⟩ | ⟨n, off, cp, h1, h2⟩
  · subst h1; intro n h; cases h
  · subst h1
    intro m h
    simp [AV.nms] at h
    subst h
    obtain ⟨o, ho⟩ := rdCells_some h2
    exact hw.lt _ _ ho

theorem SlAt.frm' {st st' : St} {v : AV} {n ty es k : Nat} {cs : List AV} {S : List Nat} (a : SlAt st.h v n ty es k cs) (f : Frm S st st') (hw : st.Wf) (hn : ∀ n ∈ v.nms, n ∉ S) : SlAt st'.h v n ty es k cs := by
  rcases a with ⟨h1, h2, h3⟩ | ⟨h1, h2, h3⟩ | ⟨ty', h1, h2, h3⟩
  · exact .nil h1 h2 h3
  · exact .buf h1 (f.get hw h2 (hn n (by simp [h1, AV.nms]))) h3
  · exact .made ty' h1 (f.get hw h2 (hn n (by simp [h1, AV.nms]))) h3
theorem Sl.frm {st st' : St} {v : AV} {ty es k : Nat} {cs : List AV} {S : List Nat} (a : Sl st v ty es k cs) (f : Frm S st st') (hw : st.Wf) (hn : ∀ n ∈ v.nms, n ∉ S) : Sl st' v ty es k cs := by
  obtain ⟨n, a⟩ := a; exact ⟨n, a.frm' f hw hn⟩
theorem Sl.ext {st st' : St} {v : AV} {ty es k : Nat} {cs : List AV} (a : Sl st v ty es k cs) (f : Ext st st') (hw : st.Wf) : Sl st' v ty es k cs := a.frm (f.fr []) hw (by simp)
theorem Sl.dropLoc {v : AV} {ty es k c : Nat} {cs : List AV} (hwf : st.Wf) (a : Sl st v ty es k cs) : Sl ⟨Go.Ev.dropLoc c st.h, st.nx⟩ v ty es k cs := by
  obtain ⟨n, a⟩ := a; exact ⟨n, a.dropLoc hwf⟩

/-- What append makes: of the slice's own block or of a new one. -/
theorem Sl.append {st0 : St} {S : List Nat} (hF : Frm S st0 st) {v x : AV} {ty es k j b : Nat} {cs new : List AV} (hv : Mine S st0 v) (a : Sl st v ty es k cs) (hx : Rd st.h x es j new) (hsc : new.all AV.sc = true)
    (hb : (k + j) * b ≤ 35184372088832) (hb' : k + j ≤ 35184372088832) (hm : 0 < j ∨ ∀ n c, v ≠ .slice n 0 k (.known c)) :
    CRes (aappend ty es b st v x) fun v' s => Sl s v' ty es (k + j) (cs ++ new) ∧ Frm S st0 s ∧ Mine S st0 v' ∧ Frm v.nms st s := by
  obtain ⟨n, a⟩ := a
  cases hv0 : v with
  | slice m o l c =>
    have hmn : n = m := by
      rcases a with ⟨h1, h2, h3⟩ | ⟨h1, h2, h3⟩ | ⟨ty', h1, h2, h3⟩ <;> rw [hv0] at h1 <;> simp at h1 <;> first | exact h1.1.symm | exact h1.symm
    subst hmn
    rw [← hv0]
    refine (a.append hF.wf hx.src hx.len hsc hb hb' ?_).mono ?_
    · rcases hm with h | h
      · exact .inl h
      · exact .inr (fun ⟨c, hc⟩ => h _ _ hc)
    · rintro v' s ⟨n', hs, hf, hn, _⟩
      have hfs : Frm v.nms st s := by rw [hv0]; exact hf
      refine ⟨⟨n', hs⟩, hF.trans hfs hv, ?_, hfs⟩
      intro k hk
      have hk' : k = n' := by
        rcases hs with ⟨h1, h2, h3⟩ | ⟨h1, h2, h3⟩ | ⟨ty', h1, h2, h3⟩ <;> rw [h1] at hk <;> simp [AV.nms] at hk <;> exact hk
      subst hk'
      rcases hn with h | h
      · subst h; exact hv _ (by simp [hv0, AV.nms])
      · exact .inr (Nat.le_trans hF.nx h)
  | nilslice =>
    have hk0 : k = 0 ∧ cs = [] := by
      rcases a with ⟨h1, h2, h3⟩ | ⟨h1, h2, h3⟩ | ⟨ty', h1, h2, h3⟩
      · exact ⟨h3, h2⟩
      · rw [hv0] at h1; cases h1
      · rw [hv0] at h1; cases h1
    obtain ⟨rfl, rfl⟩ := hk0
    unfold aappend
    rw [hx.src]
    simp only [Nat.zero_add] at hb hb' ⊢
    by_cases hj0 : j = 0
    · rw [if_pos hj0]
      refine ⟨?_, hF, Mine.nil _ _, Frm.refl hF.wf _⟩
      have : new = [] := List.length_eq_zero_iff.1 (by rw [hx.len, hj0]; simp)
      subst this; subst hj0
      exact .nil _ _ _
    · rw [if_neg hj0, if_pos ⟨hb, hb'⟩]
      refine ⟨⟨st.nx, .buf rfl (by simp [hget]) (by simpa using hx.len)⟩, hF.trans ((Ext.new hF.wf _).fr []) (by simp), ?_, (Ext.new hF.wf _).fr _⟩
      intro n hn
      simp [AV.nms] at hn
      subst hn
      exact .inr hF.nx
  | _ =>
    rcases a with ⟨h1, h2, h3⟩ | ⟨h1, h2, h3⟩ | ⟨ty', h1, h2, h3⟩ <;> rw [hv0] at h1 <;> cases h1

/-- One value appended, out of a block made for it. -/
theorem Sl.push {st0 : St} {S : List Nat} (hF : Frm S st0 st) {v y : AV} {ty k b : Nat} {cs : List AV} {Q : AV → St → Prop} (hv : Mine S st0 v) (a : Sl st v ty 1 k cs) (hsc : y.sc = true) (hb : (k + 1) * b ≤ 35184372088832) (hb' : k + 1 ≤ 35184372088832)
    (hq : ∀ v' s, Sl s v' ty 1 (k + 1) (cs ++ [y]) → Frm S st0 s → Mine S st0 v' → Frm v.nms st s → Q v' s) :
    CRes (aappend ty 1 b ⟨(st.nx, .cells ty false [y]) :: st.h, st.nx + 1⟩ v (.slice st.nx 0 1 (.known 1))) Q := by
  have hx := Ext.new hF.wf (.cells ty false [y])
  refine (Sl.append (j := 1) (new := [y]) (hF.trans (hx.fr []) (by simp)) hv (a.ext hx hF.wf) (.inr ⟨_, _, _, rfl, ?_⟩) (by simp [hsc]) hb hb' (.inl (by omega))).mono ?_
  · exact rd_all (ty := ty) (l := false) (by simp [hget]) rfl
  · rintro v' s ⟨h1, h2, h3, h4⟩
    exact hq v' s h1 h2 h3 ((hx.fr v.nms).trans h4 (fun n h => .inl h))

theorem abounds_hi {len top : Nat} {k : IntKind} {j : Int} (h0 : 0 ≤ j) (h1 : j ≤ top) : abounds len top none (some (.int k j)) none = some (0, j.toNat, none) := by
  simp only [abounds, bnd, abound]
  rw [if_pos ⟨h0, h1⟩]
/-- Blocks that do not go with a call. -/
def NL (s : St) (v : AV) : Prop := ∀ n ∈ v.nms, ∃ o, hget s.h n = some o ∧ o.lc = false
theorem NL.frm {st st' : St} {v : AV} {S : List Nat} (a : NL st v) (f : Frm S st st') (hw : st.Wf) (hn : ∀ n ∈ v.nms, n ∉ S) : NL st' v := fun n h => by
  obtain ⟨o, h1, h2⟩ := a n h
  exact ⟨o, f.get hw h1 (hn n h), h2⟩
theorem NL.ext {st st' : St} {v : AV} (a : NL st v) (f : Ext st st') (hw : st.Wf) : NL st' v := a.frm (f.fr []) hw (by simp)
theorem NL.dropLoc {v : AV} {c : Nat} (hwf : st.Wf) (a : NL st v) : NL ⟨Go.Ev.dropLoc c st.h, st.nx⟩ v := fun n h => by
  obtain ⟨o, h1, h2⟩ := a n h
  exact ⟨o, hget_dropLoc_keep hwf h1 h2, h2⟩
theorem Rd.dropLoc {v : AV} {es k c : Nat} {cs : List AV} (hwf : st.Wf) (a : Rd st.h v es k cs) (b : NL st v) : Rd (Go.Ev.dropLoc c st.h) v es k cs := by
  rcases a with ⟨h1, h2, h3⟩ | ⟨n, off, cp, h1, h2⟩
  · exact .inl ⟨h1, h2, h3⟩
  · refine .inr ⟨n, off, cp, h1, ?_⟩
    obtain ⟨o, h3, h4⟩ := b n (by simp [h1, AV.nms])
    have := hget_dropLoc_keep (c := c) hwf h3 h4
    unfold rdCells at h2 ⊢
    rw [h3] at h2
    rw [this]
    exact h2
end Go.Ev

/- Bits and octets: plain laws. -/
namespace Go.Ev
open Go
set_option linter.unusedSimpArgs false
set_option linter.unusedVariables false

end Go.Ev

/- The scanner of decimals. -/
namespace Go.Ev
open Go
set_option linter.unusedSimpArgs false
set_option linter.unusedSectionVars false
set_option linter.unusedVariables false

variable {T : Tab} {st : St}

/-- A scanner in memory: what it reads, and where it is. -/
def ScnAt (s' : St) (q : Nat) (s : List UInt8) (k : Nat) : Prop := hget s'.h q = some (.cells 187 false [.str s, .int .i64 k])

theorem ScnAt.r0 {s' : St} {q k : Nat} {s : List UInt8} (h : ScnAt s' q s k) : rdCell s'.h q 0 = some (.str s) := by unfold ScnAt at h; simp [rdCell, h]
theorem ScnAt.r1 {s' : St} {q k : Nat} {s : List UInt8} (h : ScnAt s' q s k) : rdCell s'.h q 1 = some (.int .i64 k) := by unfold ScnAt at h; simp [rdCell, h]
theorem ScnAt.w1 {s' : St} {q k : Nat} {s : List UInt8} {n : Int} (h : ScnAt s' q s k) : wrCells s'.h q 1 [.int .i64 n] = some (hset s'.h q (.cells 187 false [.str s, .int .i64 n])) := wr_cells h rfl (by simp)
theorem ScnAt.ext {s1 s2 : St} {q k : Nat} {s : List UInt8} (h : ScnAt s1 q s k) (hw : s1.Wf) (x : Ext s1 s2) : ScnAt s2 q s k := x.get hw h

/-- Is the first octet one of a set? -/
def oneB (set : List UInt8) : List UInt8 → Bool
  | [] => false
  | c :: _ => decide (c ∈ set)

/-- Digits ahead, by value, and what is left. -/
def spanD : List UInt8 → List Nat × List UInt8
  | [] => ([], [])
  | c :: r => if 48 ≤ c.toNat ∧ c.toNat ≤ 57 then ((c.toNat - 48) :: (spanD r).1, (spanD r).2) else ([], c :: r)

/-- A new object under a name laid aside. -/
theorem Ext.newA (h : st.Wf) (o : AObj) {k : Nat} (hk : 0 < k) : Ext st ⟨(st.nx, o) :: st.h, st.nx + k⟩ := by
  have x := Ext.new h o
  refine ⟨by simp, ⟨fun n p hp => ?_, x.wf.nd⟩, x.keep⟩
  have := x.wf.lt n p hp
  simp only at this ⊢
  omega

/-- No block made at once: it grows by appends alone. -/
def NK (v : AV) : Prop := ∀ n o k c, v ≠ .slice n o k (.known c)

theorem aappend_nk {ty es b : Nat} {st st' : St} {v x v' : AV} (h : aappend ty es b st v x = some (v', st')) (hv : NK v) : NK v' := by
  unfold aappend at h
  split at h
  · cases h
  · split at h
    · split at h
      · cases h; exact hv
      · split at h
        · cases h; intro n o k c e; cases e
        · cases h
    · rename_i n o len cap
      split at h
      · split at h
        · exact absurd rfl (hv _ _ _ _)
        · split at h
          · split at h
            · split at h
              · cases h; exact hv
              · cases h; intro n o k c e; cases e
            · cases h
          · cases h
        · cases h
      · cases h
    · cases h

theorem CRes.also {r : Option (AV × St)} {P : AV → St → Prop} {R : AV → Prop} (h : CRes r P) (k : ∀ v s, r = some (v, s) → R v) : CRes r fun v s => P v s ∧ R v := by
  obtain ⟨v, s, h1, h2⟩ := h.elim
  rw [h1]
  exact ⟨h2, k v s h1⟩

end Go.Ev

/- The scanner reads a decimal. -/
namespace Go.Ev
open Go
set_option linter.unusedSimpArgs false
set_option linter.unusedSectionVars false
set_option linter.unusedVariables false

variable {T : Tab} {st : St}

theorem Sl.lenOf {s : St} {v : AV} {ty es k : Nat} {cs : List AV} (a : Sl s v ty es k cs) {ev : AO → AV} {x : AO} (hx : ev x = v) : PO.run ev (.lenOf false x) = some (.int .i64 k) := by
  obtain ⟨n, a⟩ := a; exact a.lenOf hx

def sgn : List UInt8 → Bool × List UInt8
  | c :: r => if c = 45 then (true, r) else if c = 43 then (false, r) else (false, c :: r)
  | [] => (false, [])

def numD (l : List Nat) : Nat := l.foldl (fun a d => 10 * a + d) 0

/-- The mantissa's digits, and what lies behind the mantissa. -/
def decL (s : List UInt8) : List Nat := if oneB [46] (spanD (sgn s).2).2 = true then (spanD (sgn s).2).1 ++ (spanD (spanD (sgn s).2).2.tail).1 else (spanD (sgn s).2).1
def decR (s : List UInt8) : List UInt8 := if oneB [46] (spanD (sgn s).2).2 = true then (spanD (spanD (sgn s).2).2.tail).2 else (spanD (sgn s).2).2

/-- A decimal: is it negative, its digits, and how many of these lie ahead of the point. -/
def decD (s : List UInt8) : Option (Bool × List Nat × Int) :=
  if decL s = [] then none
  else if oneB [101, 69] (decR s) = true then
    if (spanD (sgn (decR s).tail).2).1.length < 1 ∨ 3 < (spanD (sgn (decR s).tail).2).1.length then none
    else if (spanD (sgn (decR s).tail).2).2 = [] then
      some ((sgn s).1, decL s, (spanD (sgn s).2).1.length + (if (sgn (decR s).tail).1 = true then -(numD (spanD (sgn (decR s).tail).2).1 : Int) else numD (spanD (sgn (decR s).tail).2).1))
    else none
  else if decR s = [] then some ((sgn s).1, decL s, (spanD (sgn s).2).1.length) else none

end Go.Ev

/- Reals parsed. -/
namespace Go.Ev
open Go
set_option linter.unusedSimpArgs false
set_option linter.unusedSectionVars false
set_option linter.unusedVariables false

variable {T : Tab} {st : St}

/-- The digits ahead of the point, one by one, up to a number that is too great. -/
def frontF : Nat → List Nat → Nat
  | n, [] => n
  | n, d :: r => if 2147483648 < 10 * n + d then 10 * n + d else frontF (10 * n + d) r

/-- The digits ahead of the point. -/
def intD (l : List Nat) (pt : Int) : List Nat := (List.range pt.toNat).map fun i => l.getD i 0

/-- What is known of a slice that is read. -/
def SlR (h : Heap) (v : AV) (l : List Nat) : Prop := (v = .nilslice ∧ l = []) ∨ ∃ n c, v = .slice n 0 l.length c ∧ ∀ i, i < l.length → rdCell h n i = some (.int .u8 (l.getD i 0 : Nat))

/-- The digits behind the point. -/
def fracD (l : List Nat) (pt : Int) : List Nat := List.replicate (-pt).toNat 0 ++ l.drop pt.toNat

theorem SlR.ext {st st' : St} {v : AV} {l : List Nat} (h : SlR st.h v l) (hw : st.Wf) (x : Ext st st') : SlR st'.h v l := by
  rcases h with h | ⟨n, c, h1, h2⟩
  · exact .inl h
  · refine .inr ⟨n, c, h1, fun i hi => ?_⟩
    have h3 := h2 i hi
    have : ∃ o, hget st.h n = some o := by
      unfold rdCell at h3
      split at h3
      · exact ⟨_, by assumption⟩
      · exact ⟨_, by assumption⟩
      · exact ⟨_, by assumption⟩
      · cases h3
    obtain ⟨o, ho⟩ := this
    have h4 := x.get hw ho
    unfold rdCell at h3 ⊢
    rw [h4]
    rw [ho] at h3
    exact h3

end Go.Ev

/- real.Parse told. -/
namespace Go.Ev
open Go
set_option linter.unusedSimpArgs false
set_option linter.unusedSectionVars false
set_option linter.unusedVariables false

variable {T : Tab} {st : St}

/-- Digits doubled: what is carried out, and the digits. -/
def dbl : List Nat → Nat × List Nat
  | [] => (0, [])
  | d :: r => ((2 * d + (dbl r).1) / 10, (2 * d + (dbl r).1) % 10 :: (dbl r).2)

/-- The rest doubled so many times: the bits, and what is left. -/
def bitsF : Nat → Nat → List Nat → Nat × List Nat
  | 0, n, l => (n, l)
  | k + 1, n, l => bitsF k (2 * n + (dbl l).1) (dbl l).2

end Go.Ev

/- real.Parse told. -/
namespace Go.Ev
open Go
set_option linter.unusedSimpArgs false
set_option linter.unusedSectionVars false
set_option linter.unusedVariables false

variable {T : Tab} {st : St}

/-- A real's N, rounded, or none where it is too great. -/
def valS (neg : Bool) (l : List Nat) (pt : Int) : Option Int :=
  if 2147483648 < frontF 0 (intD l pt) then none else
  let b := bitsF 16 (frontF 0 (intD l pt)) (fracD l pt)
  let n := if (dbl b.2).1 = 1 ∧ (neg = false ∨ ((dbl b.2).2.any fun d => decide (d ≠ 0)) = true) then b.1 + 1 else b.1
  let v : Int := if neg = true then -(n : Int) else n
  if -2147483648 ≤ v ∧ v ≤ 2147483648 then some v else none

def parseS (s : List UInt8) : Int × Int :=
  if 40 < s.length then (0, 3) else
  match decD s with
  | none => (0, 5)
  | some (neg, l, pt) => match valS neg l pt with | some v => (v, 0) | none => (0, 6)

end Go.Ev

/- strings.ContainsAny with ASCII characters, for any text. -/
namespace Go.Ev
open Go
set_option linter.unusedSimpArgs false
set_option linter.unusedSectionVars false
set_option linter.unusedVariables false

variable {T : Tab} {st : St}

end Go.Ev

/- strings.ContainsAny told. -/
namespace Go.Ev
open Go
set_option linter.unusedSimpArgs false
set_option linter.unusedSectionVars false
set_option linter.unusedVariables false

variable {T : Tab} {st : St}

/-- Is any octet one of the characters? -/
def anyOf (chars s : List UInt8) : Bool := s.any fun c => decide (c ∈ chars)

end Go.Ev

/- lex.Number told. -/
namespace Go.Ev
open Go
set_option linter.unusedSimpArgs false
set_option linter.unusedSectionVars false
set_option linter.unusedVariables false

variable {T : Tab} {st : St}

def isDig (c : UInt8) : Bool := decide (48 ≤ c.toNat) && decide (c.toNat ≤ 57)
def isExp (c : UInt8) : Bool := decide (c = 101) || decide (c = 69)

/-- A text without all but one of the digits of each run of mantissa digits. -/
def shorten : Bool → Bool → List UInt8 → List UInt8
  | _, _, [] => []
  | pd, mant, c :: r => if (mant && !isExp c) = true ∧ isDig c = true ∧ pd = true then shorten true (mant && !isExp c) r else c :: shorten (isDig c) (mant && !isExp c) r

def patS (s : List UInt8) : Bool := !decide (41 < (shorten false true s).length) && (decide ((parseS (shorten false true s)).2 = 0) || decide ((parseS (shorten false true s)).2 = 6))

end Go.Ev

/- lex.Number, lex.Word told. -/
namespace Go.Ev
open Go
set_option linter.unusedSimpArgs false
set_option linter.unusedSectionVars false
set_option linter.unusedVariables false

variable {T : Tab} {st : St}

abbrev Tk := Int × Int × Int
def ansT (n : Int) (len : Nat) : Tk := if 40 < len ∨ n < -2147483648 ∨ 2147483647 < n then (0, 0, 26) else (1, n, 0)
def wholeT (s : List UInt8) : Tk := if (cntS 10 (unsign s).1).2 = true then ansT ((unsign s).2 * (cntS 10 (unsign s).1).1) s.length else (0, 0, 5)
def radixT (s : List UInt8) : Tk :=
  if (cutS 35 s).2.2 = false ∨ (cntS 10 (cutS 35 s).1).2 = false ∨ 2 < (cutS 35 s).1.length ∨ (cntS 10 (cutS 35 s).1).1 < 2 ∨ 36 < (cntS 10 (cutS 35 s).1).1 then (0, 0, 5)
  else if (cntS (cntS 10 (cutS 35 s).1).1 (cutS 35 s).2.1).2 = true then ansT (cntS (cntS 10 (cutS 35 s).1).1 (cutS 35 s).2.1).1 s.length
  else (0, 0, 5)
def decT (s : List UInt8) : Tk := if anyOf [46, 101, 69] s = false ∨ patS s = false then (0, 0, 5) else if (parseS s).2 = 0 then (2, (parseS s).1, 0) else (0, 0, 26)

def numT (s : List UInt8) : Tk := if (wholeT s).2.2 ≠ 5 then wholeT s else if (radixT s).2.2 ≠ 5 then radixT s else decT s

end Go.Ev

/- The reference's count; Word. -/
namespace Go.Ev
open Go
set_option linter.unusedSimpArgs false
set_option linter.unusedSectionVars false
set_option linter.unusedVariables false

variable {T : Tab} {st : St}

end Go.Ev

/- strings.Builder; Quote. -/
namespace Go.Ev
open Go
set_option linter.unusedSimpArgs false
set_option linter.unusedSectionVars false
set_option linter.unusedVariables false

variable {T : Tab} {st : St}

def u8s (l : List UInt8) : List AV := l.map fun c => .int .u8 ((c.toNat : Nat) : Int)
theorem u8s_snoc (l : List UInt8) (c : UInt8) : u8s (l ++ [c]) = u8s l ++ [.int .u8 (c.toNat : Int)] := by simp [u8s]
/-- A slice of octets of one's own, that grows. -/
def Grow (st0 s : St) (v : AV) (l : List UInt8) : Prop := Sl s v 5 1 l.length (u8s l) ∧ Mine [] st0 v ∧ NK v
theorem Grow.nil (st0 s : St) : Grow st0 s .nilslice [] := ⟨.nil _ _ _, .nil _ _, fun _ _ _ _ h => by cases h⟩
theorem Grow.ge {st0 s : St} {v : AV} {l : List UInt8} (a : Grow st0 s v l) : ∀ n ∈ v.nms, st0.nx ≤ n := fun n hn => by
  rcases a.2.1 n hn with h | h
  · cases h
  · exact h
theorem Grow.frm {st0 s s' : St} {v : AV} {l : List UInt8} {S : List Nat} (a : Grow st0 s v l) (f : Frm S s s') (hw : s.Wf) (hn : ∀ n ∈ v.nms, n ∉ S) : Grow st0 s' v l := ⟨a.1.frm f hw hn, a.2.1, a.2.2⟩
theorem Grow.ext {st0 s s' : St} {v : AV} {l : List UInt8} (a : Grow st0 s v l) (f : Ext s s') (hw : s.Wf) : Grow st0 s' v l := a.frm (f.fr []) hw (by simp)
theorem Grow.dropLoc {st0 s : St} {v : AV} {l : List UInt8} {c : Nat} (a : Grow st0 s v l) (hw : s.Wf) : Grow st0 ⟨Go.Ev.dropLoc c s.h, s.nx⟩ v l := ⟨a.1.dropLoc hw, a.2.1, a.2.2⟩
theorem Grow.nms {st0 s : St} {v : AV} {l : List UInt8} (a : Grow st0 s v l) {n : Nat} (h : n ∈ v.nms) : (∃ ty, hget s.h n = some (.cells ty false (u8s l))) ∨ hget s.h n = some (.buf 5 1 (u8s l)) := by
  obtain ⟨⟨m, a⟩, _, _⟩ := a
  rcases a with ⟨h1, h2, h3⟩ | ⟨h1, h2, h3⟩ | ⟨ty', h1, h2, h3⟩ <;> rw [h1] at h <;> simp [AV.nms] at h <;> subst h
  · exact .inr h2
  · exact .inl ⟨_, h2⟩

/-- One octet appended, out of a block made for it. -/
theorem Grow.push {st0 s1 : St} (hF : st0.nx ≤ s1.nx) (hw : s1.Wf) {v : AV} {l : List UInt8} {c : UInt8} {k : Nat} (hk : 0 < k) (a : Grow st0 s1 v l) (hl : l.length < 35184372088831) :
    CRes (aappend 5 1 1 ⟨(s1.nx, .cells 5 false [.int .u8 (c.toNat : Int)]) :: s1.h, s1.nx + k⟩ v (.slice s1.nx 0 1 (.known 1))) fun v' s => Grow st0 s v' (l ++ [c]) ∧ Frm v.nms s1 s := by
  obtain ⟨a1, a2, a3⟩ := a
  have xa := Ext.newA hw (.cells 5 false [.int .u8 (c.toNat : Int)]) hk
  have hap := Sl.append (x := .slice s1.nx 0 1 (.known 1)) (j := 1) (new := [.int .u8 (c.toNat : Int)]) (b := 1) (Frm.refl xa.wf v.nms) (fun n h => .inl h) (a1.ext xa hw)
    (.inr ⟨_, _, _, rfl, rd_all (ty := 5) (l := false) (by simp [hget_cons]) rfl⟩) (by simp [AV.sc]) (by omega) (by omega) (.inl (by omega))
  refine (hap.also (fun _ _ h => aappend_nk h a3)).mono ?_
  rintro v2 s2 ⟨⟨k1, k2, k3, _⟩, hnk2⟩
  refine ⟨⟨by rw [u8s_snoc]; simpa using k1, fun n hn => ?_, hnk2⟩, (xa.fr v.nms).trans k2 (fun n h => .inl h)⟩
  rcases k3 n hn with h | h
  · exact a2 n h
  · simp at h; exact .inr (by omega)

theorem Grow.sc {st0 s : St} {v : AV} {l : List UInt8} (a : Grow st0 s v l) : v.sc = true := by
  obtain ⟨⟨m, a⟩, _, _⟩ := a
  rcases a with ⟨h1, h2, h3⟩ | ⟨h1, h2, h3⟩ | ⟨ty', h1, h2, h3⟩ <;> rw [h1] <;> rfl
theorem Grow.acells {st0 s : St} {v : AV} {l : List UInt8} (a : Grow st0 s v l) : Go.Ev.acells v = [v] := by
  obtain ⟨⟨m, a⟩, _, _⟩ := a
  rcases a with ⟨h1, h2, h3⟩ | ⟨h1, h2, h3⟩ | ⟨ty', h1, h2, h3⟩ <;> rw [h1] <;> rfl
theorem Grow.apart {st0 s : St} {v x : AV} {l : List UInt8} (a : Grow st0 s v l) {q ty : Nat} {cs : List AV} (hq : hget s.h q = some (.cells ty false cs)) (hx : x ∈ cs) (hn : ∀ k n, x ≠ .int k n) : q ∉ v.nms := fun hm => by
  have hz : ∀ l, x ∉ u8s l := fun l h => by
    simp only [u8s, List.mem_map] at h
    obtain ⟨c, _, h⟩ := h
    exact hn _ _ h.symm
  rcases a.nms hm with ⟨t, h⟩ | h <;> rw [h] at hq <;> injection hq with hq <;> injection hq
  rename_i _ _ e
  rw [← e] at hx
  exact hz _ hx

/-- A builder in memory, and what it holds. -/
def Bd (st0 s : St) (q : Nat) (l : List UInt8) : Prop := st0.nx ≤ q ∧ ∃ a v, hget s.h q = some (.cells 84 false [a, v]) ∧ (a = .nilptr ∨ a = .ptr q 0) ∧ Grow st0 s v l ∧ q ∉ v.nms

theorem Bd.grow {st0 s : St} {q : Nat} {l : List UInt8} (b : Bd st0 s q l) : st0.nx ≤ q := b.1
theorem Bd.ext {st0 s s' : St} {q : Nat} {l : List UInt8} (b : Bd st0 s q l) (x : Ext s s') (hw : s.Wf) : Bd st0 s' q l := by
  obtain ⟨h1, a, v, h2, h3, h4, h5⟩ := b
  exact ⟨h1, a, v, x.get hw h2, h3, h4.ext x hw, h5⟩

end Go.Ev

/- Unquote: the source's steps. -/
namespace Go.Ev
open Go
set_option linter.unusedSimpArgs false
set_option linter.unusedSectionVars false
set_option linter.unusedVariables false

variable {T : Tab} {st : St}

/-- A quoted string in memory: its text, how much of it is read, what was read out of it, how deep. -/
def QAt (st0 s' : St) (q : Nat) (s : List UInt8) (k : Nat) (out : List UInt8) (d : Int) : Prop := st0.nx ≤ q ∧ ∃ v, hget s'.h q = some (.cells 164 false [.str s, .int .i64 k, v, .int .i64 d]) ∧ Grow st0 s' v out ∧ q ∉ v.nms

theorem QAt.ext {st0 s s' : St} {q k : Nat} {t l : List UInt8} {d : Int} (b : QAt st0 s q t k l d) (x : Ext s s') (hw : s.Wf) : QAt st0 s' q t k l d := by
  obtain ⟨h1, v, h2, h4, h5⟩ := b
  exact ⟨h1, v, x.get hw h2, h4.ext x hw, h5⟩
/-- Its numbers written anew. -/
theorem QAt.put {st0 s : St} {q k k' : Nat} {t l : List UInt8} {d d' : Int} {v : AV} (hx : Ext st0 s) (h1 : st0.nx ≤ q) (h2 : hget s.h q = some (.cells 164 false [.str t, .int .i64 k, v, .int .i64 d])) (h4 : Grow st0 s v l) (h5 : q ∉ v.nms) :
    Ext st0 ⟨hset s.h q (.cells 164 false [.str t, .int .i64 k', v, .int .i64 d']), s.nx⟩ ∧ QAt st0 ⟨hset s.h q (.cells 164 false [.str t, .int .i64 k', v, .int .i64 d']), s.nx⟩ q t k' l d' := by
  have f3 := Frm.set hx.wf h2 (o := .cells 164 false [.str t, .int .i64 k', v, .int .i64 d'])
  refine ⟨hx.frm f3 (by simpa using h1), h1, v, hget_hset_self h2, h4.frm f3 hx.wf ?_, h5⟩
  intro n hn h
  simp at h; subst h; exact h5 hn
/-- What it holds written anew. -/
theorem QAt.out {st0 s : St} {q k : Nat} {t l : List UInt8} {d : Int} {u v : AV} (hx : Ext st0 s) (h1 : st0.nx ≤ q) (h2 : hget s.h q = some (.cells 164 false [.str t, .int .i64 k, u, .int .i64 d])) (h4 : Grow st0 s v l) :
    wrCells s.h q 2 [v] = some (hset s.h q (.cells 164 false [.str t, .int .i64 k, v, .int .i64 d])) ∧ Ext st0 ⟨hset s.h q (.cells 164 false [.str t, .int .i64 k, v, .int .i64 d]), s.nx⟩ ∧ QAt st0 ⟨hset s.h q (.cells 164 false [.str t, .int .i64 k, v, .int .i64 d]), s.nx⟩ q t k l d := by
  have f3 := Frm.set hx.wf h2 (o := .cells 164 false [.str t, .int .i64 k, v, .int .i64 d])
  have h5 := h4.apart h2 (x := .str t) (by simp) (by simp)
  refine ⟨wr_cells h2 h4.sc (by simp), hx.frm f3 (by simpa using h1), h1, v, hget_hset_self h2, h4.frm f3 hx.wf ?_, h5⟩
  intro n hn h
  simp at h; subst h; exact h5 hn

theorem QAt.dropLoc {st0 s : St} {q k c : Nat} {t l : List UInt8} {d : Int} (b : QAt st0 s q t k l d) (hw : s.Wf) : QAt st0 ⟨Go.Ev.dropLoc c s.h, s.nx⟩ q t k l d := by
  obtain ⟨h1, v, h2, h4, h5⟩ := b
  exact ⟨h1, v, hget_dropLoc_keep hw h2 rfl, h4.dropLoc hw, h5⟩

theorem QAt.push {st0 s1 : St} (hx : Ext st0 s1) {q k : Nat} {t out : List UInt8} {d : Int} (b : QAt st0 s1 q t k out d) (hl : out.length < 35184372088831) (c : UInt8) :
    ∃ v, rdCell s1.h q 2 = some v ∧ CRes (aappend 5 1 1 ⟨(s1.nx, .cells 5 false [.int .u8 (c.toNat : Int)]) :: s1.h, s1.nx + 1⟩ v (.slice s1.nx 0 1 (.known 1))) fun v' s => acells v' = [v'] ∧ ∃ h', wrCells s.h q 2 [v'] = some h' ∧ Ext st0 ⟨h', s.nx⟩ ∧ QAt st0 ⟨h', s.nx⟩ q t k (out ++ [c]) d := by
  obtain ⟨h1, v, h2, h4, h5⟩ := b
  refine ⟨v, by simp [rdCell, h2], (h4.push hx.nx hx.wf (k := 1) (by omega) (c := c) hl).mono ?_⟩
  rintro v2 s2 ⟨o2, f2⟩
  have x2 := hx.frm f2 h4.ge
  have g2 := f2.get hx.wf h2 h5
  obtain ⟨z1, z2, z3⟩ := QAt.out x2 h1 g2 o2
  exact ⟨o2.acells, _, z1, z2, z3⟩

end Go.Ev

/- Unquote told. -/
namespace Go.Ev
open Go
set_option linter.unusedSimpArgs false
set_option linter.unusedSectionVars false
set_option linter.unusedVariables false

variable {T : Tab} {st : St}

def toU (t : List UInt8 × Nat × Int) : AV := .tuple [.str t.1, .int .i64 (t.2.1 : Int), .int .i64 t.2.2]

end Go.Ev

/- Valid tokens; Check. -/
namespace Go.Ev
open Go
set_option linter.unusedSimpArgs false
set_option linter.unusedSectionVars false
set_option linter.unusedVariables false

variable {T : Tab} {st : St}

def namedT (k : Int) (t : List UInt8) : Bool := decide (t.length ≤ 100) && regAll t && (decide (k ≠ 3) || (!(t == []) && decide ((numT t).2.2 = 5)))

end Go.Ev

/- The chapter's examples. -/
namespace Go.Ev
open Go
set_option linter.unusedSimpArgs false
set_option linter.unusedSectionVars false
set_option linter.unusedVariables false

variable {T : Tab} {st : St}

end Go.Ev

/- LexKnown told. -/
namespace Go.Ev
open Go
set_option linter.unusedSimpArgs false
set_option linter.unusedSectionVars false
set_option linter.unusedVariables false

variable {T : Tab} {st : St}

end Go.Ev

/- LexNests told. -/
namespace Go.Ev
open Go
set_option linter.unusedSimpArgs false
set_option linter.unusedSectionVars false
set_option linter.unusedVariables false

variable {T : Tab} {st : St}

/-- Octets that are only read: a slice of a block, from its beginning. -/
def InL (h : Heap) (v : AV) (l : List UInt8) : Prop := (v = .nilslice ∧ l = []) ∨ ∃ n full, v = .slice n 0 l.length .unk ∧ hget h n = some (.ro (u8s full)) ∧ l = full.take l.length
theorem InL.len {h : Heap} {v : AV} {l : List UInt8} {ev : AO → AV} {x : AO} (a : InL h v l) (hx : ev x = v) : PO.run ev (.lenOf false x) = some (.int .i64 l.length) := by
  rcases a with ⟨rfl, rfl⟩ | ⟨n, full, rfl, _, _⟩ <;> simp [PO.run, hx]
theorem InL.ext {st' : St} {v : AV} {l : List UInt8} (a : InL st.h v l) (x : Ext st st') (hw : st.Wf) : InL st'.h v l := by
  rcases a with h | ⟨n, full, h1, h2, h3⟩
  · exact .inl h
  · exact .inr ⟨n, full, h1, x.get hw h2, h3⟩
theorem InL.take {h : Heap} {v : AV} {l : List UInt8} {ev : AO → AV} {x y : AO} {k : IntKind} (a : InL h v l) (hx : ev x = v) {j : Int} (hy : ev y = .int k j) (h0 : 0 ≤ j) (h1 : j ≤ l.length) : ∃ v', PO.run ev (.subL 1 x none (some y) none) = some v' ∧ InL h v' (l.take j.toNat) := by
  rcases a with ⟨rfl, rfl⟩ | ⟨n, full, rfl, h2, h3⟩
  · refine ⟨.nilslice, ?_, .inl ⟨rfl, by simp⟩⟩
    have : j = 0 := by simp at h1; omega
    subst this
    simp only [PO.run, hx]
    simp [hy, asubL, abounds, bnd, abound, topOf, subCap]
  · have hl : (l.take j.toNat).length = j.toNat := by rw [List.length_take]; omega
    refine ⟨.slice n 0 j.toNat .unk, ?_, .inr ⟨n, full, by rw [hl], h2, ?_⟩⟩
    · simp only [PO.run, hx]
      simp only [hy, asubL, Option.map_some, Option.map_none]
      rw [abounds_hi h0 (show j ≤ (topOf l.length .unk : Nat) from h1)]
      simp [subCap]
    · have hle : l.length ≤ full.length := by
        have := congrArg List.length h3
        rw [List.length_take] at this; omega
      rw [hl]
      conv => lhs; rw [h3]
      rw [List.take_take, Nat.min_eq_left (by omega)]
theorem InL.at {h : Heap} {v : AV} {l : List UInt8} {i : Nat} {c : UInt8} (a : InL h v l) (hc : l[i]? = some c) : ∃ n, v = .slice n 0 l.length .unk ∧ rdCell h n i = some (.int .u8 (c.toNat : Int)) := by
  rcases a with ⟨rfl, rfl⟩ | ⟨n, full, rfl, h2, h3⟩
  · simp at hc
  · refine ⟨n, rfl, ?_⟩
    have : full[i]? = some c := by
      rw [h3, List.getElem?_take] at hc
      split at hc
      · exact hc
      · cases hc
    simp [rdCell, h2, u8s, this]

end Go.Ev

/- Octets among the arguments: what they are, and the names of their blocks. -/
namespace Go.Ev
open Go Go.RowKit Go.ChangeShapes Go.WideShapes Go.Deep Go.Joins
set_option linter.unusedVariables false
set_option linter.unusedSimpArgs false

theorem wf_u8 {n : Int} (h : (Lit.int .u8 n).wf = true) : 0 ≤ n ∧ n < 256 := by
  simp [Lit.wf, IntKind.min, IntKind.max, IntKind.signed, IntKind.bits] at h
  omega


section
variable {H : Type} {enc : TypeId × Value → H} {P : Program} {w : World} {base : Nat} {spare : Nat → Bool} {held : Bool}

end
end Go.Ev

/- The reference's Unquote: its parts. -/
namespace Go.Ev
open Go
set_option linter.unusedSimpArgs false
set_option linter.unusedSectionVars false
set_option linter.unusedVariables false

variable {T : Tab} {st : St}

end Go.Ev

/- The reference's Unquote told. -/
namespace Go.Ev
open Go
set_option linter.unusedSimpArgs false
set_option linter.unusedSectionVars false
set_option linter.unusedVariables false

variable {T : Tab} {st : St}

end Go.Ev

/- The reference's Quote; LexQuotes told. -/
namespace Go.Ev
open Go
set_option linter.unusedSimpArgs false
set_option linter.unusedSectionVars false
set_option linter.unusedVariables false

variable {T : Tab} {st : St}

end Go.Ev

/- The reference's reader of decimals. -/
namespace Go.Ev
open Go
set_option linter.unusedSimpArgs false
set_option linter.unusedSectionVars false
set_option linter.unusedVariables false

variable {T : Tab} {st : St}

/-- The digits of a mantissa, how many of them lie behind the point, and what is left. -/
def mant : Bool → List UInt8 → List Nat × Nat × List UInt8
  | _, [] => ([], 0, [])
  | pt, c :: r =>
    if isDig c = true then ((c.toNat - 48) :: (mant pt r).1, (if pt = true then 1 else 0) + (mant pt r).2.1, (mant pt r).2.2)
    else if c = 46 ∧ pt = false then mant true r
    else ([], 0, c :: r)

end Go.Ev

/- The reference's Read told. -/
namespace Go.Ev
open Go
set_option linter.unusedSimpArgs false
set_option linter.unusedSectionVars false
set_option linter.unusedVariables false

variable {T : Tab} {st : St}

/-- The parts of a code. -/
def MCode.a : MCode → MCode
  | .seq x _ => x
  | c => c
def MCode.b : MCode → MCode
  | .seq _ y => y
  | c => c
theorem cut {T : Tab} {c : MCode} (hc : c = .seq c.a c.b) (hA : ∀ l, c.a ≠ .keep l) {e : Env} {Q : Ex → Env → St → Prop} (P : Ex → Env → St → Prop) (h1 : Res (run T c.a e st) P) (h2 : ∀ x e s, P x e s → kSeq T c.b Q x e s) : Res (run T c e st) Q := by
  rw [hc]
  exact seq_cut P hA h1 h2

theorem Sl.cases {s : St} {v : AV} {ty es k : Nat} {cs : List AV} (a : Sl s v ty es k cs) : (v = .nilslice ∧ cs = [] ∧ k = 0) ∨ ∃ n cp, v = .slice n 0 k cp := by
  obtain ⟨n, a⟩ := a
  rcases a with ⟨h1, h2, h3⟩ | ⟨h1, h2, h3⟩ | ⟨ty', h1, h2, h3⟩
  · exact .inl ⟨h1, h2, h3⟩
  · exact .inr ⟨n, _, h1⟩
  · exact .inr ⟨n, _, h1⟩

end Go.Ev

/- Digits multiplied. -/
namespace Go.Ev
open Go
set_option linter.unusedSimpArgs false
set_option linter.unusedSectionVars false
set_option linter.unusedVariables false

variable {T : Tab} {st : St}

end Go.Ev

/- The reference's Parse told. -/
namespace Go.Ev
open Go
set_option linter.unusedSimpArgs false
set_option linter.unusedSectionVars false
set_option linter.unusedVariables false

variable {T : Tab} {st : St}

end Go.Ev

/- The reference's Number. -/
namespace Go.Ev
open Go
set_option linter.unusedSimpArgs false
set_option linter.unusedSectionVars false
set_option linter.unusedVariables false

variable {T : Tab} {st : St}

def nb : Nat → MCode
  | 0 => B.chaseref03_Number.body
  | k + 1 => (nb k).b

end Go.Ev

/- The reference's Word told. -/
namespace Go.Ev
open Go
set_option linter.unusedSimpArgs false
set_option linter.unusedSectionVars false
set_option linter.unusedVariables false

variable {T : Tab} {st : St}

end Go.Ev

/- The plain law of numbers: ints, with and without a base. -/
namespace Go.Ev
open Go
set_option linter.unusedSimpArgs false
set_option linter.unusedSectionVars false
set_option linter.unusedVariables false

end Go.Ev

/- The plain law of numbers: decimals are read alike. -/
namespace Go.Ev
open Go
set_option linter.unusedSimpArgs false
set_option linter.unusedSectionVars false
set_option linter.unusedVariables false

end Go.Ev

/- The plain law of numbers: a decimal without a point or an exponent is an int. -/
namespace Go.Ev
open Go
set_option linter.unusedSimpArgs false
set_option linter.unusedSectionVars false
set_option linter.unusedVariables false

end Go.Ev

/- The plain law of numbers: a text whose runs of digits are cut to one digit is a decimal if the whole text is. -/
namespace Go.Ev
open Go
set_option linter.unusedSimpArgs false
set_option linter.unusedSectionVars false
set_option linter.unusedVariables false

end Go.Ev

/- The plain law of numbers: values. -/
namespace Go.Ev
open Go
set_option linter.unusedSimpArgs false
set_option linter.unusedSectionVars false
set_option linter.unusedVariables false

end Go.Ev

/- LexNumbers: the marks, drawn into a text. -/
namespace Go.Ev
open Go
set_option linter.unusedSimpArgs false
set_option linter.unusedSectionVars false
set_option linter.unusedVariables false

variable {T : Tab} {st : St}

end Go.Ev

/- LexNumbers told, if Number and Word are the reference's. -/
namespace Go.Ev
open Go
set_option linter.unusedSimpArgs false
set_option linter.unusedSectionVars false
set_option linter.unusedVariables false

variable {T : Tab} {st : St}

end Go.Ev

/- The plain law of numbers: the mark's decimals and the reference's. -/
namespace Go.Ev
open Go
set_option linter.unusedSimpArgs false
set_option linter.unusedSectionVars false
set_option linter.unusedVariables false

end Go.Ev

/- The abstract bodies of the functions, printed by a program of this work. -/
namespace Go.Ev.B
open Go
def chaseref03_Draft_Token_l0 : MCode := (.seq (.keep [1, 2, 3, 4, 5]) (.seq (.seq (.reg [p 37 (.mov 5), p 38 (.faddr 2 1), r 39 (.load none 38), p 40 (.lenOf true 39), p 41 (.bin .lss 
  37 40), p 42 (.mov 41), pg 43 42 true (.mov 5), pg 44 42 true (.bin .lss 43 (.k (.int .i64 20))), p 45 (.pick 42 44 (.k (.bool false)))]) (.cond 45 .skip (.exit 1))) (.seq (.keep [1, 
  2, 3, 4, 5]) (.seq (.block 2 (.seq (.reg [p 48 (.faddr 2 1), r 49 (.load none 48), p 50 (.mov 5), p 51 (.idxS 49 50), w 52 (.call (.k (.fn 68 [] [])) [51])]) (.cond 52 (.reg [p 53 (.mov 
  4), p 54 (.faddr 2 1), r 55 (.load none 54), p 56 (.mov 5), p 57 (.idxS 55 56), n 58 (.buildSl 5 1 [(.int .u8 0)] [(0, 1, 57)]), w 59 (.append 5 1 1 [(.int .u8 0)] 53 58), p 4 (.mov 
  59)]) .skip))) (.seq (.keep [1, 2, 3, 4, 5]) (.reg [p 46 (.mov 5), p 47 (.bin .add 46 (.k (.int .i64 1))), p 5 (.mov 47)]))))))
def chaseref03_Draft_Token : MFun := ⟨1, [.cell 2 (some 3)], (.seq (.reg [n 1 (.box 205 true 0), n 2 (.alloc 134 true [(.int .i64 0), (.int .i64 0), (.str [])])]) (.seq (.reg [p 7 (.faddr 
  0 1), r 8 (.load none 7), p 9 (.bin .rem 8 (.k (.int .u8 8))), p 10 (.conv .i64 9), p 11 (.bin .add (.k (.int .i64 1)) 10), p 3 (.mov 11)]) (.seq (.seq (.reg [p 12 (.mov 3)]) (.block 
  0 (.seq (.seq (.reg [p 14 (.bin .eql 12 (.k (.int .i64 1))), p 13 (.mov 14)]) (.cond 13 .skip (.reg [p 15 (.bin .eql 12 (.k (.int .i64 2))), p 13 (.mov 15)]))) (.cond 13 (.seq (.reg 
  [p 16 (.mov 3), p 17 (.faddr 1 1), r 18 (.load none 17), p 19 (.conv .i64 18), p 20 (.build [(.int .i64 0), (.int .i64 0), (.str [])] [(0, 1, 16), (1, 1, 19)]), w0 (.store 3 2 20)]) 
  .ret) (.seq (.reg [p 22 (.bin .eql 12 (.k (.int .i64 6))), p 21 (.mov 22)]) (.cond 21 (.seq (.reg [p 23 (.mov 3), p 24 (.faddr 2 1), r 25 (.load none 24), p 26 (.faddr 2 1), r 27 (.load 
  none 26), p 28 (.lenOf true 27), p 29 (.minmax false [28, (.k (.int .i64 60))]), p 30 (.subS 25 none (some 29)), p 31 (.build [(.int .i64 0), (.int .i64 0), (.str [])] [(0, 1, 23), 
  (2, 1, 30)]), w0 (.store 3 2 31)]) .ret) (.seq (.seq (.reg [p 33 (.bin .eql 12 (.k (.int .i64 7))), p 32 (.mov 33)]) (.cond 32 .skip (.reg [p 34 (.bin .eql 12 (.k (.int .i64 8))), p 
  32 (.mov 34)]))) (.cond 32 (.seq (.reg [p 35 (.mov 3), p 36 (.build [(.int .i64 0), (.int .i64 0), (.str [])] [(0, 1, 35)]), w0 (.store 3 2 36)]) .ret) .skip)))))))) (.seq (.keep [1, 
  2, 3]) (.seq (.reg [p 4 (.mov (.k .nilslice))]) (.seq (.seq (.reg [p 5 (.mov (.k (.int .i64 0)))]) (.block 1 (.loop chaseref03_Draft_Token_l0))) (.seq (.keep [1, 2, 3, 4]) (.seq (.reg 
  [p 60 (.mov 3), p 61 (.mov 4), r 62 (.b2s 61), p 63 (.build [(.int .i64 0), (.int .i64 0), (.str [])] [(0, 1, 60), (2, 1, 62)]), n 6 (.alloc 134 true [(.int .i64 0), (.int .i64 0), 
  (.str [])]), w0 (.store 3 6 63)]) (.seq (.seq (.reg [p 64 (.mov 3), p 65 (.bin .eql 64 (.k (.int .i64 3))), p 66 (.mov 65), rg 67 66 true (.load (some 3) 6), wg 68 66 true (.call (.k 
  (.fn 129 [] [])) [67]), pg 69 66 true (.un .not 68), p 70 (.pick 66 69 (.k (.bool false)))]) (.cond 70 (.reg [n 71 (.buildSl 9 7 [(.str []), (.str []), (.str []), (.str []), (.str []), 
  (.str []), (.str [])] [(0, 1, (.k (.str [97]))), (1, 1, (.k (.str [91]))), (2, 1, (.k (.str [93]))), (3, 1, (.k (.str [60, 60]))), (4, 1, (.k (.str [62, 62]))), (5, 1, (.k (.str [120, 
  45, 49]))), (6, 1, (.k (.str [61])))]), p 72 (.faddr 0 1), r 73 (.load none 72), p 74 (.bin .quo 73 (.k (.int .u8 8))), p 75 (.bin .rem 74 (.k (.int .u8 7))), p 76 (.iaddrS 1 71 75), 
  r 77 (.load none 76), p 78 (.faddr 2 6), w0 (.store 1 78 77)]) .skip)) (.seq (.keep [2, 6]) (.seq (.reg [r 79 (.load (some 3) 6), w0 (.store 3 2 79)]) .ret)))))))))))⟩

end Go.Ev.B

/- The reference's valid tokens. -/
namespace Go.Ev
open Go
set_option linter.unusedSimpArgs false
set_option linter.unusedSectionVars false
set_option linter.unusedVariables false

variable {T : Tab} {st : St}

end Go.Ev

/- The reference's decimal text of an int. -/
namespace Go.Ev
open Go
set_option linter.unusedSimpArgs false
set_option linter.unusedSectionVars false
set_option linter.unusedVariables false

variable {T : Tab} {st : St}

theorem hget_of_mem : ∀ {h : Heap} {n : Nat}, n ∈ h.map (·.1) → ∃ o, hget h n = some o
  | [], _, hm => by simp at hm
  | (m, o) :: h, n, hm => by
    by_cases e : m = n
    · exact ⟨o, by simp [hget, e]⟩
    · simp only [List.map_cons, List.mem_cons] at hm
      rcases hm with h1 | h1
      · exact absurd h1.symm e
      · obtain ⟨p, hp⟩ := hget_of_mem h1
        exact ⟨p, by simp [hget, e, hp]⟩

/-- A block takes a name that was laid aside. -/
theorem Ext.put (hwf : st.Wf) {k n : Nat} {s : St} (x : Ext ⟨st.h, st.nx + k⟩ s) (h1 : st.nx ≤ n) (h2 : n < st.nx + k) (o : AObj) : Ext st ⟨(n, o) :: s.h, s.nx⟩ := by
  have hno : hget s.h n = none := by
    rw [x.keep n h2]
    cases hg : hget st.h n with
    | none => rfl
    | some p => have := hwf.lt n p hg; omega
  have hnx := x.nx
  refine ⟨by simp only at hnx ⊢; omega, ⟨fun m p hm => ?_, ?_⟩, fun m hm => ?_⟩
  · simp only [hget] at hm
    split at hm
    · rename_i e; subst e; simp only at hnx ⊢; omega
    · exact x.wf.lt m p hm
  · simp only [List.map_cons, List.nodup_cons]
    refine ⟨fun hm => ?_, x.wf.nd⟩
    obtain ⟨p, hp⟩ := hget_of_mem hm
    rw [hno] at hp; cases hp
  · simp only [hget]
    rw [if_neg (by omega), x.keep m (by simp only; omega)]

end Go.Ev

/- Reals as decimals: what both Prints answer; the reference's Print. -/
namespace Go.Ev
open Go
set_option linter.unusedSimpArgs false
set_option linter.unusedSectionVars false
set_option linter.unusedVariables false

variable {T : Tab} {st : St}

end Go.Ev

/- The canonical texts: the reference's Text. -/
namespace Go.Ev
open Go
set_option linter.unusedSimpArgs false
set_option linter.unusedSectionVars false
set_option linter.unusedVariables false

variable {T : Tab} {st : St}

end Go.Ev

/- real.Print: the digits ahead of the point are yielded one by one. -/
namespace Go.Ev
open Go
set_option linter.unusedSimpArgs false
set_option linter.unusedSectionVars false
set_option linter.unusedVariables false

variable {T : Tab} {st : St}

end Go.Ev

/- real.Print told. -/
namespace Go.Ev
open Go
set_option linter.unusedSimpArgs false
set_option linter.unusedSectionVars false
set_option linter.unusedVariables false

variable {T : Tab} {st : St}

theorem Bd.dropLoc {st0 s : St} {q c : Nat} {l : List UInt8} (b : Bd st0 s q l) (hw : s.Wf) : Bd st0 ⟨Go.Ev.dropLoc c s.h, s.nx⟩ q l := by
  obtain ⟨k1, a, v, k2, k3, k4, k5⟩ := b
  exact ⟨k1, a, v, hget_dropLoc_keep hw k2 rfl, k3, k4.dropLoc hw, k5⟩
end Go.Ev

/- lex.Text; the token of a draft. -/
namespace Go.Ev
open Go
set_option linter.unusedSimpArgs false
set_option linter.unusedSectionVars false
set_option linter.unusedVariables false

variable {T : Tab} {st : St}

/-- The library's table of powers of ten is among the objects. -/
def Pow (st : St) : Prop := ∃ m cs, hget st.h m = some (.glob B.gPow10 cs) ∧ cs.map B.av64 = Lib.pow10Tab.map some
theorem Pow.ext {s : St} (h : Pow st) (x : Ext st s) (hw : st.Wf) : Pow s := by
  obtain ⟨m, cs, h1, h2⟩ := h
  exact ⟨m, cs, x.get hw h1, h2⟩

theorem rd_at {h : Heap} {n ty k : Nat} {l : Bool} {cs : List AV} {v : AV} (hg : hget h n = some (.cells ty l cs)) (hk : cs[k]? = some v) : rdCell h n k = some v := by simp [rdCell, hg, hk]
/-- The body of Draft.Token behind its first k parts. -/
def tb : Nat → MCode
  | 0 => B.chaseref03_Draft_Token.body
  | k + 1 => (tb k).b

end Go.Ev

/- The token of a draft; LexTexts. -/
namespace Go.Ev
open Go
set_option linter.unusedSimpArgs false
set_option linter.unusedSectionVars false
set_option linter.unusedVariables false

variable {T : Tab} {st : St}

end Go.Ev

/- LexTexts: the law told. -/
namespace Go.Ev
open Go
set_option linter.unusedSimpArgs false
set_option linter.unusedSectionVars false
set_option linter.unusedVariables false

variable {T : Tab} {st : St}

theorem seq8_self (s : List UInt8) : seq8 s s = true := by rw [seq8_eq]; simp

end Go.Ev

/- Structs of two numbers and a text among the arguments; a table of the library among the objects. -/
namespace Go.Ev
open Go Go.RowKit Go.ChangeShapes Go.WideShapes Go.Deep Go.Joins
set_option linter.unusedVariables false
set_option linter.unusedSimpArgs false

end Go.Ev

/- Filters and their drafts among the arguments. -/
namespace Go.Ev
open Go Go.RowKit Go.ChangeShapes Go.WideShapes Go.Deep Go.Joins
set_option linter.unusedVariables false

section
variable {H : Type} {enc : TypeId × Value → H} {P : Program} {w : World} {base : Nat} {spare : Nat → Bool} {held : Bool} {r : Reach} {b0 : Nat} {t : TypeId} {f0 f1 f2 f3 : Field} {k0 k1 k2 k3 : IntKind} {v : Value} {d : DataW H} {p : List MemPlace}

/-- A struct of a text and three numbers. -/
theorem filter_open (hs : P.underlying t = some (.struct #[f0, f1, f2, f3])) (hone : oneCellFields P #[f0, f1, f2, f3] = true) (hC : P.cellsOf t = 4) (h0 : P.underlying f0.type = some .string) (h1 : P.underlying f1.type = some (.int k1)) (h2 : P.underlying f2.type = some (.int k2)) (h3 : P.underlying f3.type = some (.int k3))
    (hv : Value.okWide P w r b0 t v) (h : DataW.Trod enc P w base spare held t v d p) :
    ∃ (s : ByteArray) (a b c : Int), v = .agg #[.string s, .int k1 a, .int k2 b, .int k3 c] ∧ p = [] := by
  obtain ⟨v0, v1, v2, v3, y0, y1, y2, y3, n, rfl, rfl, rfl, q0, q1, q2, q3⟩ := open_agg4 hs hone hC hv h
  obtain ⟨s, e0, rfl, _⟩ := DataW.trod_string h0 q0
  obtain ⟨a, e1, rfl, _⟩ := DataW.trod_int h1 q1
  obtain ⟨b, e2, rfl, _⟩ := DataW.trod_int h2 q2
  obtain ⟨c, e3, rfl, _⟩ := DataW.trod_int h3 q3
  simp only [List.cons.injEq, and_true] at e0 e1 e2 e3
  subst e0 e1 e2 e3
  exact ⟨s, a, b, c, rfl, rfl⟩

/-- A struct of four octets. -/
theorem octets4_open (hs : P.underlying t = some (.struct #[f0, f1, f2, f3])) (hone : oneCellFields P #[f0, f1, f2, f3] = true) (hC : P.cellsOf t = 4) (h0 : P.underlying f0.type = some (.int .u8)) (h1 : P.underlying f1.type = some (.int .u8)) (h2 : P.underlying f2.type = some (.int .u8)) (h3 : P.underlying f3.type = some (.int .u8))
    (hv : Value.okWide P w r b0 t v) (h : DataW.Trod enc P w base spare held t v d p) :
    ∃ (a b c e : Nat), v = .agg #[.int .u8 (a : Int), .int .u8 (b : Int), .int .u8 (c : Int), .int .u8 (e : Int)] ∧ p = [] ∧ a < 256 ∧ b < 256 ∧ c < 256 ∧ e < 256 := by
  obtain ⟨v0, v1, v2, v3, y0, y1, y2, y3, n, rfl, rfl, rfl, q0, q1, q2, q3⟩ := open_agg4 hs hone hC hv h
  obtain ⟨a, e0, rfl, w0⟩ := DataW.trod_int h0 q0
  obtain ⟨b, e1, rfl, w1⟩ := DataW.trod_int h1 q1
  obtain ⟨c, e2, rfl, w2⟩ := DataW.trod_int h2 q2
  obtain ⟨e, e3, rfl, w3⟩ := DataW.trod_int h3 q3
  have z0 := wf_u8 w0
  have z1 := wf_u8 w1
  have z2 := wf_u8 w2
  have z3 := wf_u8 w3
  obtain ⟨a, rfl⟩ := Int.eq_ofNat_of_zero_le z0.1
  obtain ⟨b, rfl⟩ := Int.eq_ofNat_of_zero_le z1.1
  obtain ⟨c, rfl⟩ := Int.eq_ofNat_of_zero_le z2.1
  obtain ⟨e, rfl⟩ := Int.eq_ofNat_of_zero_le z3.1
  simp only [List.cons.injEq, and_true] at e0 e1 e2 e3
  subst e0 e1 e2 e3
  exact ⟨a, b, c, e, rfl, rfl, by omega, by omega, by omega, by omega⟩
end
end Go.Ev

/- strings.Join as an entry of the table. -/
namespace Go.Ev
open Go Go.RowKit
set_option linter.unusedVariables false

variable {X : Cx} {D : ChkD} {T : Tab} {st : St}

namespace B
end B

end Go.Ev
