/- An entry of the table out of a contract: a function of the library that is called. -/
import Derived.Test.YtglndmkmfhafhaaEvU
import Derived.Test.YtglndmkmfhafhaaEvR
import Derived.Lib.Repeat
namespace Go.Ev
open Go Go.RowKit
set_option linter.unusedVariables false

variable {X : Cx} {N : Nu} {D : ChkD}

theorem HR.below {h : Heap} {w w' : World} (hr : HR D X N h w) (b : Below w.heap.size w w') : HR D X N h w' :=
  ⟨fun n o ho => (hr.objs n o ho).keep (.refl N) b.size (fun a ha => b.block _ ((hr.objs n o ho).lt ha)), hr.sep⟩
theorem Gd.below {h : Heap} {w w' : World} (b : Below w.heap.size w w') : Gd N h w N h w' :=
  ⟨.refl N, b.size, b.tape, b.os, b.output, fun k hk _ => b.block k hk, fun n o a h1 h2 => .inl ⟨n, o, a, h1, h2, rfl, id⟩⟩

/-- The function is there, with a body, and none of the two that are met by name. -/
def bodyB (P : Program) (f : FuncId) : Bool :=
  match P.funcs[f]? with
  | some fn => fn.body.isSome && !(fn.name == "runtime.NumGoroutine")
  | none => false

theorem callsTo_of_calls {P : Program} {f : FuncId} {us : Array Value} {w w' : World} {u : Value} {c : Frame} {cs : List Frame} (hb : bodyB P f = true)
    (h : ∃ fr, Comes P (lone (Frame.enter P f us .normal) (c :: cs) w) (lone fr (c :: cs) w') (.returned u) ∧ fr.leaving P w' (.returned u)) : CallsTo P (callFunc f us) w c cs u w' := by
  unfold bodyB at hb
  split at hb
  case h_2 => cases hb
  rename_i fn hf
  simp only [Bool.and_eq_true, Bool.not_eq_true'] at hb
  obtain ⟨body, hbody⟩ := Option.isSome_iff_exists.1 hb.1
  obtain ⟨fr, h1, h2⟩ := h
  have hcf : (callFunc f us).run P w = .ok (.enter f us) w := by
    have hname' : ¬ fn.name = "runtime.NumGoroutine" := by simpa using hb.2
    simp [callFunc, hf, hname', hbody]
  refine ⟨.enter f us, w, hcf, .inr (.inl ⟨_, _, rfl, ?_⟩)⟩
  exact Steps.trans h1 (.one (step_leave_returned h2))

/-- A contract of the shelf's kind makes an entry. -/
theorem entry_of_calls {f : Nat} {F : Entry} (hb : bodyB X.P (X.φ f) = true)
    (h : ∀ args st v st', F args st = some (v, st') → st' = st ∧ ∀ N us, VRs X N args us → ∃ u, VR X N v u ∧ ∀ w, Calls X.P (X.φ f) us.toArray w fun e w' => e = .returned u ∧ Below w.heap.size w w') : EntryOK D X f F := by
  intro args st v st' hF N w us hr hv c cs
  obtain ⟨rfl, h1⟩ := h args st v st' hF
  obtain ⟨u, hu, h2⟩ := h1 N us hv
  obtain ⟨e, w', fr, ⟨rfl, hbel⟩, hc, _, hl⟩ := h2 w (c :: cs)
  exact ⟨N, u, w', hu, ⟨hr.hr.below hbel, hr.fresh⟩, Gd.below hbel, Nat.le_refl _, fun _ _ => rfl, callsTo_of_calls hb ⟨fr, hc, hl⟩⟩

end Go.Ev

/- strings.Repeat as an entry of the table. -/
namespace Go.Ev
open Go Go.RowKit
set_option linter.unusedVariables false

variable {X : Cx} {D : ChkD} {T : Tab} {st : St}

def repeatE : Entry := fun args st => match args with
  | [.str s, .int .i64 n] => if 0 ≤ n ∧ n ≤ 9223372036854775807 ∧ s.length * n.toNat ≤ 140737488355328 then some (.str (Lib.repeatL s n.toNat), st) else none
  | _ => none

theorem repeat_entry {f : Nat} (hb : bodyB X.P (X.φ f) = true)
    (h : ∀ (s : ByteArray) (c : Nat) (w : World), c ≤ 9223372036854775807 → s.size * c ≤ 140737488355328 → Calls X.P (X.φ f) #[.string s, .int .i64 c] w fun e w' => e = .returned (.string ⟨(Lib.repeatL s.data.toList c).toArray⟩) ∧ Below w.heap.size w w') : EntryOK D X f repeatE := by
  refine entry_of_calls hb fun args st v st' hF => ?_
  unfold repeatE at hF
  split at hF
  case h_2 => cases hF
  rename_i s n
  split at hF
  case isFalse => cases hF
  rename_i hc
  simp only [Option.some.injEq, Prod.mk.injEq] at hF
  obtain ⟨rfl, rfl⟩ := hF
  refine ⟨rfl, fun N us hus => ?_⟩
  obtain ⟨u0, us0, rfl, h0, u1, us1, rfl, h1, rfl⟩ := hus
  obtain ⟨c, rfl⟩ := Int.eq_ofNat_of_zero_le hc.1
  cases h0
  cases h1
  refine ⟨_, rfl, fun w => ?_⟩
  have := h ⟨s.toArray⟩ c w (by omega) (by show s.toArray.size * c ≤ _; simpa using hc.2.2)
  simpa using this

theorem call_entry {k : Nat} {F : Entry} (h : T.en k = some F) {first args cap : List AV} : call T (.fn k first cap) args st = F (first ++ args ++ cap) st := by
  simp only [call, evCall, evCallF, h]

theorem repeat_call (h : T.en 13 = some repeatE) {s : List UInt8} {n : Nat} (h1 : n ≤ 9223372036854775807) (h2 : s.length * n ≤ 140737488355328) :
    call T (.fn 13 [] []) [.str s, .int .i64 n] st = some (.str (Lib.repeatL s n), st) := by
  rw [call_entry h]
  simp only [List.nil_append, List.append_nil, repeatE]
  rw [if_pos ⟨by omega, by omega, by simpa using h2⟩]
  simp

end Go.Ev
