/- Steps of the model's machine, for a frame that may be a round of a loop over a function. -/
import Derived.Test.YtglndmkmfhafhaaEvF
import Derived.RangeFuncRecord
namespace Go.Ev
open Go

/-- A running frame: its temporaries, deferred calls and code. -/
def Fr (b : Frame) (t : Array Value) (d : List Deferred) (todo : List Item) : Frame := { b with tmps := t, defers := d, todo, mode := .run }

def evT (t : Array Value) : Operand → Value
  | .tmp i => t.getD i undef
  | .const v => v
  | .global g => .pointer (some ⟨g, 0, none⟩)
  | .func f => .func (.func f) #[] #[]

theorem Fr_eval (b : Frame) (t : Array Value) (d : List Deferred) (todo : List Item) : (Fr b t d todo).eval = evT t := by
  funext x; cases x <;> rfl

def putT (t : Array Value) : Option Nat → Value → Array Value
  | none, _ => t
  | some d, v => t.setIfInBounds d v

section
variable {P : Program} {b : Frame} {t : Array Value} {d : List Deferred} {k : List Item} {cs : List Frame} {w : World}

theorem fr_skip : step P (lone (Fr b t d (.code .skip :: k)) cs w) = .next (lone (Fr b t d k) cs w) :=
  step_lone_go (by simp [stepG, stepG.exec, Fr])

theorem fr_label {l : Nat} : step P (lone (Fr b t d (.code (.label l) :: k)) cs w) = .next (lone (Fr b t d k) cs w) :=
  step_lone_go (by simp [stepG, stepG.exec, Fr])

theorem fr_inBlock {i : Nat} : step P (lone (Fr b t d (.inBlock i :: k)) cs w) = .next (lone (Fr b t d k) cs w) :=
  step_lone_go (by simp [stepG, stepG.exec, Fr])

theorem fr_inScope {c : Code} : step P (lone (Fr b t d (.inScope c :: k)) cs w) = .next (lone (Fr b t d k) cs w) :=
  step_lone_go (by simp [stepG, stepG.exec, Fr])

theorem fr_seq {x y : Code} : step P (lone (Fr b t d (.code (.seq x y) :: k)) cs w) = .next (lone (Fr b t d (.code x :: .code y :: k)) cs w) :=
  step_lone_go (by simp [stepG, stepG.exec, Fr])

theorem fr_cond {c : Operand} {x y : Code} {q : Bool} (h : evT t c = .bool q) :
    step P (lone (Fr b t d (.code (.cond c x y) :: k)) cs w) = .next (lone (Fr b t d (.code (if q then x else y) :: k)) cs w) :=
  step_lone_go (by
    have := congrFun (Fr_eval b t d (.code (.cond c x y) :: k)) c
    simp only [Fr] at this
    simp [stepG, stepG.exec, Fr, this, h])

theorem fr_block {i : Nat} {c : Code} : step P (lone (Fr b t d (.code (.block i c) :: k)) cs w) = .next (lone (Fr b t d (.code c :: .inBlock i :: k)) cs w) :=
  step_lone_go (by simp [stepG, stepG.exec, Fr])

theorem fr_scope {c : Code} : step P (lone (Fr b t d (.code (.scope c) :: k)) cs w) = .next (lone (Fr b t d (.code c :: .inScope c :: k)) cs w) :=
  step_lone_go (by simp [stepG, stepG.exec, Fr])

theorem fr_loop {c : Code} : step P (lone (Fr b t d (.code (.loop c) :: k)) cs w) = .next (lone (Fr b t d (.code c :: .inLoop c :: k)) cs w) :=
  step_lone_go (by simp [stepG, stepG.exec, Fr])

theorem fr_inLoop {c : Code} : step P (lone (Fr b t d (.inLoop c :: k)) cs w) = .next (lone (Fr b t d (.code c :: .inLoop c :: k)) cs w) :=
  step_lone_go (by simp [stepG, stepG.exec, Fr])

theorem fr_exit {i : Nat} {k' : List Item} (h : exitTo i k = some k') : step P (lone (Fr b t d (.code (.exit i) :: k)) cs w) = .next (lone (Fr b t d k') cs w) :=
  step_lone_go (by simp [stepG, stepG.exec, Fr, h])

theorem fr_region {i : Nat} {ops : Array Oper} :
    step P (lone (Fr b t d (.code (.region i ops false) :: k)) cs w) = .next (lone (Fr b t d (.inRegion ops (List.range ops.size) :: k)) cs w) :=
  step_lone_go (by simp [stepG, stepG.exec, Fr])

theorem fr_region_draw {i : Nat} {ops : Array Oper} :
    step P (lone (Fr b t d (.code (.region i ops true) :: k)) cs w) =
      .next (lone (Fr b t d (.inRegion ops (Region.schedule (P.follows .mixedOrders) ops (w.tape w.drawn (.order b.fn i))) :: k)) cs { w with drawn := w.drawn + 1 }) :=
  step_lone_go (by simp [stepG, stepG.exec, Fr, choose, Sem.run, Question.forced, Question.cut])

theorem fr_region_end {ops : Array Oper} : step P (lone (Fr b t d (.inRegion ops [] :: k)) cs w) = .next (lone (Fr b t d k) cs w) :=
  step_lone_go (by simp [stepG, stepG.exec, Fr])

theorem Fr_finish (ops : Array Oper) (i : Nat) (rest : List Nat) (v : Value) :
    (Fr b t d (.inRegion ops (i :: rest) :: k)).finish v = Fr b (putT t ((ops[i]?).bind (·.dst)) v) d (.inRegion ops rest :: k) := by
  cases h : (ops[i]?).bind (·.dst) <;> simp [Frame.finish, Fr, putT, h]

theorem fr_op_skip {ops : Array Oper} {i : Nat} {rest : List Nat} {o : Oper} (ho : ops[i]? = some o) (h : Region.wanted o (yielded ops t) = false) :
    step P (lone (Fr b t d (.inRegion ops (i :: rest) :: k)) cs w) = .next (lone (Fr b (putT t o.dst undef) d (.inRegion ops rest :: k)) cs w) := by
  have hf := Fr_finish (b := b) (t := t) (d := d) (k := k) ops i rest undef
  rw [ho] at hf
  simp only [Option.bind_some] at hf
  rw [← hf]
  exact step_lone_go (by simp [stepG, stepG.exec, Fr, ho, h])

theorem frG_op {ops : Array Oper} {i : Nat} {rest : List Nat} {o : Oper} (ho : ops[i]? = some o) (hw : Region.wanted o (yielded ops t) = true) (hd : ∀ c, o.op ≠ .defer c) :
    stepG P true { frame := Fr b t d (.inRegion ops (i :: rest) :: k), callers := cs, status := .running, dying := none } w =
      stepG.apply P true (Fr b t d (.inRegion ops (i :: rest) :: k)) cs none (execOp (evT t) o) w := by
  have he := Fr_eval b t d (.inRegion ops (i :: rest) :: k)
  simp only [Fr] at he
  simp only [Fr]
  cases hro : b.roundOf with
  | none =>
    rw [hro] at he
    simp [stepG, stepG.exec, stepG.oper, Frame.oper?, ho, hw, he]
  | some l =>
    rw [hro] at he
    simp only [stepG, stepG.exec, stepG.oper, Frame.oper?, ho, hw, he, Option.map_some, Option.getD_some, if_true]
    cases hop : o.op <;> first | rfl | exact absurd hop (hd _)

theorem fr_op_value {ops : Array Oper} {i : Nat} {rest : List Nat} {o : Oper} {nx : Next} {u : Value} {w' : World} (ho : ops[i]? = some o) (hw : Region.wanted o (yielded ops t) = true) (hd : ∀ c, o.op ≠ .defer c)
    (hr : (execOp (evT t) o).run P w = .ok nx w') (hu : outOf nx = some u) :
    step P (lone (Fr b t d (.inRegion ops (i :: rest) :: k)) cs w) = .next (lone (Fr b (putT t o.dst u) d (.inRegion ops rest :: k)) cs w') := by
  have hf := Fr_finish (b := b) (t := t) (d := d) (k := k) ops i rest u
  rw [ho] at hf
  simp only [Option.bind_some] at hf
  rw [← hf]
  refine step_lone_go ?_
  rw [frG_op ho hw hd]
  cases nx <;> simp only [outOf] at hu <;> first | (cases hu; done) | skip
  · cases hu; simp [stepG.apply, hr]
  · cases hu; simp [stepG.apply, hr]

/-- What stands behind an operation that enters a frame. -/
theorem fr_op_enter {ops : Array Oper} {i : Nat} {rest : List Nat} {o : Oper} {g : FuncId} {us : Array Value} {w' : World} (ho : ops[i]? = some o) (hw : Region.wanted o (yielded ops t) = true) (hd : ∀ c, o.op ≠ .defer c)
    (hr : (execOp (evT t) o).run P w = .ok (.enter g us) w') :
    step P (lone (Fr b t d (.inRegion ops (i :: rest) :: k)) cs w) = .next (lone (Frame.enter P g us .normal) (Fr b t d (.inRegion ops (i :: rest) :: k) :: cs) w') := by
  refine step_lone_go ?_
  rw [frG_op ho hw hd]
  simp [stepG.apply, hr, Fr]

theorem fr_op_round {ops : Array Oper} {i : Nat} {rest : List Nat} {o : Oper} {l : Nat} {g : FuncId} {us : Array Value} {a c : Code} {w' : World} (ho : ops[i]? = some o) (hw : Region.wanted o (yielded ops t) = true) (hd : ∀ c, o.op ≠ .defer c)
    (hr : (execOp (evT t) o).run P w = .ok (.round l g us a c) w') :
    step P (lone (Fr b t d (.inRegion ops (i :: rest) :: k)) cs w) = .next (lone (Frame.round l g us a c .normal) (Fr b t d (.inRegion ops (i :: rest) :: k) :: cs) w') := by
  refine step_lone_go ?_
  rw [frG_op ho hw hd]
  simp [stepG.apply, hr, Fr]

/-- The end of a function's body. -/
theorem fr_end (hb : b.roundOf = none) : step P (lone (Fr b t d []) cs w) = .next (lone { Fr b t d [] with mode := .returning } cs w) :=
  step_lone_go (by simp [stepG, stepG.exec, Fr, hb])

theorem fr_ret (hb : b.roundOf = none) : step P (lone (Fr b t d (.code .ret :: k)) cs w) = .next (lone { Fr b t d (.code .ret :: k) with mode := .returning } cs w) :=
  step_lone_go (by simp [stepG, stepG.exec, Fr, hb])

/-- The end of a round. -/
theorem fr_round_end {l : Nat} {c : Frame} {r : Loop} (hb : b.roundOf = some l) (hk : b.kind = .normal) (hl : w.heap[l]? = some (.loop r)) :
    step P (lone (Fr b t d []) (c :: cs) w) = .next (lone (c.finish (.bool true)) cs { w with heap := w.heap.setIfInBounds l (.loop { r with state := .ready, pending := none }) }) := by
  refine step_lone_go ?_
  have he : (Instr.endRound l none).run P w = .ok (.bool true) { w with heap := w.heap.setIfInBounds l (.loop { r with state := .ready, pending := none }) } := by
    simp [Instr.endRound, Instr.getLoop, getObj, setObj, Sem.run, hl]
  simp [stepG, stepG.exec, Fr, hb, he, doReturn, hk]

theorem fr_round_ret {l : Nat} {c : Frame} {r : Loop} (hb : b.roundOf = some l) (hk : b.kind = .normal) (hl : w.heap[l]? = some (.loop r)) :
    step P (lone (Fr b t d (.code .ret :: k)) (c :: cs) w) = .next (lone (c.finish (.bool false)) cs { w with heap := w.heap.setIfInBounds l (.loop { r with state := .done, pending := some .ret }) }) := by
  refine step_lone_go ?_
  have he : (Instr.endRound l (some .ret)).run P w = .ok (.bool false) { w with heap := w.heap.setIfInBounds l (.loop { r with state := .done, pending := some .ret }) } := by
    simp [Instr.endRound, Instr.getLoop, getObj, setObj, Sem.run, hl]
  simp [stepG, stepG.exec, Fr, hb, he, doReturn, hk]

theorem fr_round_exit {l i : Nat} {c : Frame} {r : Loop} (hb : b.roundOf = some l) (hk : b.kind = .normal) (hl : w.heap[l]? = some (.loop r)) (hx : exitTo i k = none) :
    step P (lone (Fr b t d (.code (.exit i) :: k)) (c :: cs) w) = .next (lone (c.finish (.bool false)) cs { w with heap := w.heap.setIfInBounds l (.loop { r with state := .done, pending := some (.exit i) }) }) := by
  refine step_lone_go ?_
  have he : (Instr.endRound l (some (.exit i))).run P w = .ok (.bool false) { w with heap := w.heap.setIfInBounds l (.loop { r with state := .done, pending := some (.exit i) }) } := by
    simp [Instr.endRound, Instr.getLoop, getObj, setObj, Sem.run, hl]
  simp [stepG, stepG.exec, Fr, hb, he, doReturn, hk, hx]

theorem fr_beginRound {l : Nat} {r : Loop} (hb : b.roundOf = some l) (hl : w.heap[l]? = some (.loop r)) (hr : r.state = .ready) :
    step P (lone (Fr b t d (.beginRound :: k)) cs w) = .next (lone (Fr b t d k) cs { w with heap := w.heap.setIfInBounds l (.loop { r with state := .busy }) }) := by
  refine step_lone_go ?_
  have he : (Instr.beginRound l).run P w = .ok () { w with heap := w.heap.setIfInBounds l (.loop { r with state := .busy }) } := by
    simp [Instr.beginRound, Instr.getLoop, getObj, setObj, Sem.run, hl, hr]
  simp [stepG, stepG.exec, Fr, hb, stepG.apply, he, Frame.finish]

/-- A mark of a loop over a function is taken as the frame returns. -/
theorem fr_unwind_mark {r : Nat} {todo : List Item} (hr : w.heap[r]? = some (.deferred (some []))) :
    step P (lone { Fr b t ({ target := .collected r, args := #[] } :: d) todo with mode := .returning } cs w) =
      .next (lone { Fr b t d todo with mode := .returning } cs { w with heap := w.heap.setIfInBounds r (.deferred none) }) := by
  refine step_lone_go ?_
  have he : (Instr.takeDeferred r).run P w = .ok [] { w with heap := w.heap.setIfInBounds r (.deferred none) } := by
    simp [Instr.takeDeferred, getObj, setObj, Sem.run, hr]
  simp [stepG, unwind, Fr, he]

theorem fr_return {c : Frame} {fn : Func} {v : Value} {todo : List Item} (hk : b.kind = .normal) (hf : P.funcs[b.fn]? = some fn) (hr : (results fn t).run P w = .ok v w) :
    step P (lone { Fr b t [] todo with mode := .returning } (c :: cs) w) = .next (lone (c.finish v) cs w) := by
  refine step_lone_go ?_
  simp [stepG, unwind, Fr, hf, hr, doReturn, hk]

end

end Go.Ev

/- The evaluator's code does what the model's machine does: regions and calls. -/
namespace Go.Ev
open Go

variable {X : Cx} {N N' N'' : Nu} {D : ChkD}

/-- The marks of loops over functions that a frame bears. -/
def DefOK (B : Nat) (d : List Deferred) (w : World) : Prop :=
  ∃ rs : List Nat, d = rs.map (fun r => { target := .collected r, args := #[] }) ∧ rs.Nodup ∧ ∀ r ∈ rs, B ≤ r ∧ w.heap[r]? = some (.deferred (some []))

theorem HR.not_own_deferred {h : Heap} {w : World} (hr : HR D X N h w) {b : Nat} {q : Option (List Deferred)} (hb : w.heap[b]? = some (.deferred q)) : ¬ Own N h b := by
  rintro ⟨n, o, a, hg, ho, ha, rfl⟩
  have := hr.objs n o hg
  cases o with
  | cells ty l cs => obtain ⟨b, us, fz, h1, h2, _⟩ := this; rw [h1] at ha; cases ha; rw [h2] at hb; cases hb
  | buf ty es cs => obtain ⟨b, us, fz, h1, h2, _⟩ := this; rw [h1] at ha; cases ha; rw [h2] at hb; cases hb
  | ro cs => cases ho
  | map es => obtain ⟨b, mes, clk, h1, h2, _⟩ := this; rw [h1] at ha; cases ha; rw [h2] at hb; cases hb
  | loop st env ps assign body => obtain ⟨b, l, S, h1, h2, _⟩ := this; rw [h1] at ha; cases ha; rw [h2] at hb; cases hb

theorem DefOK.keep {B : Nat} {d : List Deferred} {h h' : Heap} {w w' : World} (hd : DefOK B d w) (hr : HR D X N h w) (g : Gd N h w N' h' w') : DefOK B d w' := by
  obtain ⟨rs, h1, h2, h3⟩ := hd
  refine ⟨rs, h1, h2, fun r hr' => ⟨(h3 r hr').1, ?_⟩⟩
  have := (h3 r hr').2
  rw [g.frame r (lt_of_get this) (hr.not_own_deferred this), this]

/-- What a call comes to, for one frame that waits for it. -/
def CallsTo (P : Program) (s : Sem Next) (w : World) (c : Frame) (cs : List Frame) (u : Value) (w' : World) : Prop :=
  ∃ nx w1, s.run P w = .ok nx w1 ∧ ((outOf nx = some u ∧ w1 = w') ∨
    (∃ g us, nx = .enter g us ∧ Steps P (lone (Frame.enter P g us .normal) (c :: cs) w1) (lone (c.finish u) cs w')) ∨
    (∃ l g us a e, nx = .round l g us a e ∧ Steps P (lone (Frame.round l g us a e .normal) (c :: cs) w1) (lone (c.finish u) cs w')))

abbrev CallF := AV → List AV → St → Option (AV × St)
abbrev ExF := MCode → Env → St → Option (Ex × Env × St)

def callSem (u : Value) (us : Array Value) : Sem Next := do let d ← Deferred.ofValue u us; invoke d.target d.args

def CallOK (D : ChkD) (X : Cx) (call : CallF) : Prop :=
  ∀ f args st v st', call f args st = some (v, st') → ∀ N w uf us, SR D X N st w → VR X N f uf → VRs X N args us → ∀ c cs,
    ∃ N' u w', VR X N' v u ∧ SR D X N' st' w' ∧ Gd N st.h w N' st'.h w' ∧ st.nx ≤ st'.nx ∧ (∀ n, n < st.nx → N'.ρ n = N.ρ n) ∧ CallsTo X.P (callSem uf us.toArray) w c cs u w'

def OutM (P : Program) (b : Frame) (k : List Item) (cs : List Frame) (M : Machine) (t : Array Value) (d : List Deferred) (w : World) : Ex → Prop
  | .norm => Steps P M (lone (Fr b t d k) cs w)
  | .exit i => ∃ k2 M', exitTo i k2 = exitTo i k ∧ Steps P M M' ∧ step P M' = step P (lone (Fr b t d (.code (.exit i) :: k2)) cs w)
  | .ret => ∃ k2 M', Steps P M M' ∧ step P M' = step P (lone (Fr b t d (.code .ret :: k2)) cs w)

def CodeOK (D : ChkD) (X : Cx) (ex : ExF) : Prop :=
  ∀ c code S e st x e' st', ex c e st = some (x, e', st') → chkC D X S c code = true → ∀ N b t d k cs w B, EnvR X N e t → S ≤ t.size → SR D X N st w → DefOK B d w → B ≤ w.heap.size →
    (b.roundOf = none ∨ noRF c = true) →
    ∃ N' t' d' w', EnvR X N' e' t' ∧ t'.size = t.size ∧ SR D X N' st' w' ∧ Gd N st.h w N' st'.h w' ∧ st.nx ≤ st'.nx ∧ (∀ n, n < st.nx → N'.ρ n = N.ρ n) ∧ DefOK B d' w' ∧ (noRF c = true → d' = d) ∧
      ∀ M, step X.P M = step X.P (lone (Fr b t d (.code code :: k)) cs w) → OutM X.P b k cs M t' d' w' x

theorem evs_of {e : Env} {t : Array Value} (h : EnvR X N e t) : Evs X N (AO.ev e) (evT t) := by
  intro a x hc
  cases a with
  | t n =>
    cases x <;> simp [chkA] at hc
    subst hc
    exact h n
  | k v =>
    cases x with
    | tmp => simp [chkA] at hc
    | const c => simp only [chkA] at hc; exact chkV_VR _ _ hc
    | global g => simp [chkA] at hc
    | func g =>
      unfold chkA at hc
      split at hc <;> first | (simp_all; done) | skip
      · simp only [beq_iff_eq] at hc
        rename_i heq1 heq2
        cases heq1
        cases heq2
        subst hc
        exact ⟨#[], #[], rfl, rfl, rfl⟩

theorem EnvR.put {e : Env} {t : Array Value} (h : EnvR X N e t) {dst : Option Nat} {v : AV} {u : Value} (hd : ∀ d, dst = some d → d < t.size) (hv : VR X N v u) : EnvR X N (eput e dst v) (putT t dst u) := by
  cases dst with
  | none => exact h
  | some d =>
    intro i
    simp only [eput, eset, eget, putT]
    by_cases he : d = i
    · subst he
      rw [if_pos rfl]
      have := hd d rfl
      simp [Array.getD, this]
      exact hv
    · rw [if_neg he]
      have := h i
      simp only [Array.getD_eq_getD_getElem?] at this ⊢
      rw [Array.getElem?_setIfInBounds_ne he]
      exact this

theorem putT_size (t : Array Value) (dst : Option Nat) (u : Value) : (putT t dst u).size = t.size := by
  cases dst <;> simp [putT]

theorem chkM_defer {c : Call} {m : MO} (h : m ≠ .p .stuck) : chkM X (.defer c) m = false := by
  cases m with
  | p o => cases o <;> first | rfl | exact absurd rfl h
  | r o => cases o <;> rfl
  | n o => cases o <;> rfl
  | w o => cases o <;> rfl

theorem wanted_of {e : Env} {t : Array Value} (h : EnvR X N e t) {ops : Array Oper} {g : Option (Nat × Bool)} {o : Oper} (hg : chkG ops g o.guard = true) {b : Bool} (hw : wanted e g = some b) :
    Region.wanted o (yielded ops t) = b := by
  unfold Region.wanted
  cases ho : o.guard with
  | none =>
    rw [ho] at hg
    cases g with
    | none => cases hw; rfl
    | some p => cases hg
  | some p =>
    obtain ⟨j, want⟩ := p
    rw [ho] at hg
    cases g with
    | none => cases hg
    | some q =>
      obtain ⟨tt, bb⟩ := q
      simp only [chkG, bool_and, beq_iff_eq] at hg
      obtain ⟨rfl, hd⟩ := hg
      simp only [wanted] at hw
      split at hw
      · rename_i c hc
        cases hw
        have := h tt
        rw [hc] at this
        simp only [VR] at this
        have hget : t[tt]? = some (.bool c) := by
          rw [Array.getD_eq_getD_getElem?] at this
          cases hq : t[tt]? with
          | none => rw [hq] at this; cases this
          | some v => rw [hq] at this; simp only [Option.getD_some] at this; rw [this]
        simp only [yielded, hd, Option.bind_some, hget]
        rw [Bool.eq_iff_iff]; simp
      · rename_i c hc
        cases hw
        have := h tt
        rw [hc] at this
        obtain ⟨us, hus, -⟩ := this
        have hget : ∀ bb, t[tt]? ≠ some (.bool bb) := by
          intro bb hq
          rw [Array.getD_eq_getD_getElem?, hq] at hus
          cases hus
        simp only [yielded, hd, Option.bind_some]
        rfl
      · cases hw

/-- One operation of a region. -/
theorem MI_sound {call : CallF} (hcall : CallOK D X call) {S : Nat} {ops : Array Oper} {i : Nat} {o : Oper} {mi : MI} {e e' : Env} {st st' : St} (hv : mi.run call e st = some (e', st')) (hc : chkI X S ops mi o = true) (ho : ops[i]? = some o)
    {t : Array Value} {w : World} (he : EnvR X N e t) (hs : S ≤ t.size) (hr : SR D X N st w) (b : Frame) (d : List Deferred) (rest : List Nat) (k : List Item) (cs : List Frame) :
    ∃ N' t' w', EnvR X N' e' t' ∧ t'.size = t.size ∧ SR D X N' st' w' ∧ Gd N st.h w N' st'.h w' ∧ st.nx ≤ st'.nx ∧ (∀ n, n < st.nx → N'.ρ n = N.ρ n) ∧
      Steps X.P (lone (Fr b t d (.inRegion ops (i :: rest) :: k)) cs w) (lone (Fr b t' d (.inRegion ops rest :: k)) cs w') := by
  simp only [chkI, bool_and, beq_iff_eq] at hc
  obtain ⟨hdst, hlt, hg, hm⟩ := hc
  have hd : ∀ q, mi.dst = some q → q < t.size := by
    intro q hq
    rw [← hdst, hq] at hlt
    have hlt' : q < S := by simpa using hlt
    omega
  have hdef : mi.op ≠ .p .stuck → ∀ c, o.op ≠ .defer c := by
    intro hns c e
    rw [e, chkM_defer hns] at hm
    cases hm
  unfold MI.run at hv
  split at hv
  · rename_i hw
    have hwant := wanted_of he hg hw
    split at hv
    · rename_i v st1 hrun
      cases hv
      have hns : mi.op ≠ .p .stuck := by
        intro e
        rw [e] at hrun
        cases hrun
      have hdef := hdef hns
      by_cases hcl : mi.op.calls = true
      · -- a call
        cases hop : mi.op with
        | p p => rw [hop] at hcl; cases hcl
        | r p => rw [hop] at hcl; cases hcl
        | n p => rw [hop] at hcl; cases hcl
        | w p =>
          rw [hop] at hcl hrun hm
          cases p with
          | call f args =>
            simp only [MO.run, WO.run] at hrun
            simp only [chkM] at hm
            unfold chkW at hm
            split at hm <;> first | (cases hm; done) | (rename_i heq; cases heq; done) | skip
            rename_i f0 args0 ats f' args' hop2 heq
            cases heq
            simp only [bool_and] at hm
            have hev := evs_of he
            obtain ⟨N', u, w', h1, h2, h3, h4, h5, nx, w1, h6, h7⟩ := hcall _ _ _ _ _ hrun N w _ _ hr (hev _ _ hm.1) (hev.list hm.2) (Fr b t d (.inRegion ops (i :: rest) :: k)) cs
            have hexec : (execOp (evT t) o).run X.P w = .ok nx w1 := by
              simp only [execOp, hop2, resolve]
              have : (args0.toList.map (evT t)).toArray = args0.map (evT t) := by
                apply Array.ext'; simp
              rw [this] at h6
              exact h6
            have hfin : (Fr b t d (.inRegion ops (i :: rest) :: k)).finish u = Fr b (putT t o.dst u) d (.inRegion ops rest :: k) := by
              rw [Fr_finish, ho]; rfl
            refine ⟨N', putT t mi.dst u, w', (he.mono h3.le).put hd h1, putT_size _ _ _, h2, h3, h4, h5, ?_⟩
            rw [hdst]
            rcases h7 with ⟨hu, rfl⟩ | ⟨g, us, rfl, hst⟩ | ⟨l, g, us, a, c, rfl, hst⟩
            · exact .one (fr_op_value ho hwant hdef hexec hu)
            · rw [← hfin]; exact .head (fr_op_enter ho hwant hdef hexec) hst
            · rw [← hfin]; exact .head (fr_op_round ho hwant hdef hexec) hst
          | _ => cases hcl
      · have hcl : mi.op.calls = false := by simpa using hcl
        obtain ⟨N', nx, u, w', h1, h2, h3, h4, h5, h6, h7⟩ := MO_sound hm hcl (evs_of he) (fun _ => rfl) hr hrun
        exact ⟨N', putT t mi.dst u, w', (he.mono h5.le).put hd h3, putT_size _ _ _, h4, h5, h6, h7, by rw [hdst]; exact .one (fr_op_value ho hwant hdef h1 h2)⟩
    · cases hv
  · rename_i hw
    cases hv
    have hwant := wanted_of he hg hw
    exact ⟨N, putT t mi.dst undef, w, he.put hd ⟨_, rfl, rfl⟩, putT_size _ _ _, hr, .refl _ _ _, Nat.le_refl _, fun _ _ => rfl, by rw [hdst]; exact .one (fr_op_skip ho hwant)⟩
  · cases hv

/-- A region in the order of its text. -/
theorem ops_sound {call : CallF} (hcall : CallOK D X call) {S : Nat} {ops : Array Oper} (b : Frame) (d : List Deferred) (k : List Item) (cs : List Frame) :
    ∀ (is : List MI) (i : Nat) (os : List Oper) (N : Nu) (e e' : Env) (st st' : St) (t : Array Value) (w : World), runOps call is e st = some (e', st') → chkL X S ops is os = true → ops.toList.drop i = os →
      EnvR X N e t → S ≤ t.size → SR D X N st w →
      ∃ N' t' w', EnvR X N' e' t' ∧ t'.size = t.size ∧ SR D X N' st' w' ∧ Gd N st.h w N' st'.h w' ∧ st.nx ≤ st'.nx ∧ (∀ n, n < st.nx → N'.ρ n = N.ρ n) ∧
        Steps X.P (lone (Fr b t d (.inRegion ops (List.range' i os.length) :: k)) cs w) (lone (Fr b t' d (.inRegion ops [] :: k)) cs w')
  | [], i, os, N, e, e', st, st', t, w, hv, hc, hd, he, hs, hr => by
    cases os with
    | cons => simp [chkL] at hc
    | nil =>
      cases hv
      exact ⟨N, t, w, he, rfl, hr, .refl _ _ _, Nat.le_refl _, fun _ _ => rfl, .refl _ _⟩
  | mi :: is, i, os, N, e, e', st, st', t, w, hv, hc, hd, he, hs, hr => by
    cases os with
    | nil => simp [chkL] at hc
    | cons o os =>
      simp only [chkL, bool_and] at hc
      simp only [runOps] at hv
      split at hv
      · rename_i e1 st1 h1
        have ho : ops[i]? = some o := by
          rw [← Array.getElem?_toList]
          have := congrArg List.head? hd
          rw [List.head?_drop] at this
          exact this
        have hd' : ops.toList.drop (i + 1) = os := by
          have := congrArg List.tail hd
          rw [List.tail_drop] at this
          exact this
        obtain ⟨N1, t1, w1, a1, a2, a3, a4, a5, a6, a7⟩ := MI_sound hcall h1 hc.1 ho he hs hr b d (List.range' (i + 1) os.length) k cs
        obtain ⟨N2, t2, w2, b1, b2, b3, b4, b5, b6, b7⟩ := ops_sound hcall b d k cs is (i + 1) os N1 e1 e' st1 st' t1 w1 hv hc.2 hd' a1 (by omega) a3
        refine ⟨N2, t2, w2, b1, by omega, b3, a4.trans b4, by omega, fun n hn => by rw [b6 n (by omega), a6 n hn], ?_⟩
        rw [List.length_cons, List.range'_succ]
        exact a7.trans b7
      · cases hv

end Go.Ev

/- Calls: a function's body, a round of a loop over a function. -/
namespace Go.Ev
open Go

variable {X : Cx} {N N' N'' : Nu} {D : ChkD}

theorem argEnv_get : ∀ (vs : List AV) (i t : Nat), eget (argEnv i vs) t = if i ≤ t then vs.getD (t - i) .bot else .bot
  | [], i, t => by simp [argEnv, eget]
  | v :: vs, i, t => by
    simp only [argEnv, eget]
    by_cases e : i = t
    · subst e; simp
    · rw [if_neg e, argEnv_get vs (i + 1) t]
      by_cases h : i ≤ t
      · rw [if_pos h, if_pos (by omega), show t - i = (t - (i + 1)) + 1 by omega]
        simp
      · rw [if_neg h, if_neg (by omega)]

theorem EnvR.args {vs : List AV} {us : Array Value} (h : VRs X N vs us.toList) (k : Nat) : EnvR X N (argEnv 0 vs) (us ++ Array.replicate k undef) := by
  intro t
  rw [argEnv_get, if_pos (Nat.zero_le _), Nat.sub_zero]
  obtain ⟨hl, hi⟩ := VRs_iff.1 h
  simp only [Array.length_toList] at hl
  by_cases ht : t < vs.length
  · have h2 : t < us.size := by omega
    have : (us ++ Array.replicate k undef).getD t undef = us[t] := by
      simp [Array.getD_eq_getD_getElem?, Array.getElem?_append, h2]
    rw [this]
    refine hi t _ _ ?_ ?_
    · rw [List.getD_eq_getElem?_getD, List.getElem?_eq_getElem ht]; simp
    · simp [h2]
  · rw [List.getD_eq_getElem?_getD, List.getElem?_eq_none (by omega)]
    trivial

theorem EnvR.bind : ∀ {ps : List Nat} {e : Env} {t : Array Value} {vs : List AV} {us : List Value}, EnvR X N e t → VRs X N vs us → (∀ p ∈ ps, p < t.size) →
    EnvR X N (bindEnv e ps vs) ((ps.zip us).foldl (fun t p => t.setIfInBounds p.1 p.2) t)
  | [], e, t, vs, us, he, hv, hp => by simpa [bindEnv] using he
  | p :: ps, e, t, vs, us, he, hv, hp => by
    cases vs with
    | nil => simp only [VRs] at hv; subst hv; simpa [bindEnv] using he
    | cons v vs =>
      obtain ⟨u, ur, rfl, h1, h2⟩ := hv
      simp only [bindEnv, List.zip_cons_cons, List.foldl_cons]
      refine EnvR.bind (t := t.setIfInBounds p u) ?_ h2 (fun q hq => by simpa using hp q (List.mem_cons_of_mem _ hq))
      exact he.put (dst := some p) (fun d hd => by cases hd; exact hp p List.mem_cons_self) h1

def chkRes (X : Cx) : MRes → ResultVar → Bool
  | .t n, .tmp m => n == m
  | .cell n sz, .cell m t => n == m && szOK X t sz
  | _, _ => false

def chkRess (X : Cx) : List MRes → List ResultVar → Bool
  | [], [] => true
  | r :: rs, q :: qs => chkRes X r q && chkRess X rs qs
  | _, _ => false

def rv (t : Array Value) : ResultVar → Sem Value
  | .tmp n => pure (t.getD n undef)
  | .cell a ty => do loadVar ty (← asAddr (t.getD a undef))

theorem results_eq (fn : Func) (t : Array Value) : results fn t = (do let vs ← fn.results.mapM (rv t); pure (if h : vs.size = 1 then vs[0] else .tuple vs)) := by
  unfold results
  congr 1

theorem resVal_sound {h : Heap} {w : World} (hr : HR D X N h w) {e : Env} {t : Array Value} (he : EnvR X N e t) {r : MRes} {q : ResultVar} (hc : chkRes X r q = true) {v : AV} (hv : resVal h e r = some v) :
    ∃ u, (rv t q).run X.P w = .ok u w ∧ VR X N v u := by
  cases r with
  | t n =>
    cases q with
    | tmp m => simp only [chkRes, beq_iff_eq] at hc; subst hc; cases hv; exact ⟨_, rfl, he n⟩
    | cell => simp [chkRes] at hc
  | cell n sz =>
    cases q with
    | tmp => simp [chkRes] at hc
    | cell m ty =>
      simp only [chkRes, bool_and, beq_iff_eq] at hc
      obtain ⟨rfl, hz⟩ := hc
      simp only [resVal] at hv
      have h1 := he n
      cases sz with
      | none =>
        simp only [RO.run, AO.ev] at hv
        split at hv
        · rename_i k off hn
          rw [hn] at h1
          obtain ⟨ad, hρ, h1⟩ := h1
          obtain ⟨ad', u, h2, h3, h4⟩ := rdCell_sound hr hv
          rw [hρ] at h2; cases h2
          refine ⟨u, ?_, h3⟩
          simp [rv, h1, asAddr, loadVar, run_isAgg_none hz, h4]
        · cases hv
      | some k =>
        simp only [RO.run, AO.ev] at hv
        split at hv
        · rename_i k2 off hn
          rw [hn] at h1
          obtain ⟨ad, hρ, h1⟩ := h1
          simp only [Option.map_eq_some_iff] at hv
          obtain ⟨cs, hcs, rfl⟩ := hv
          obtain ⟨ad', us, h2, h3, h4, h5⟩ := rdCells_sound hr hcs
          rw [hρ] at h2; cases h2
          obtain ⟨z1, z2⟩ := run_isAgg_some hz w
          have hl := run_loadCells_at (P := X.P) h5
          refine ⟨.agg us.toArray, ?_, us.toArray, rfl, h3⟩
          simp [rv, h1, asAddr, loadVar, z1, z2, ← h4, hl]
        · cases hv

theorem resVals_sound {h : Heap} {w : World} (hr : HR D X N h w) {e : Env} {t : Array Value} (he : EnvR X N e t) : ∀ {rs : List MRes} {qs : List ResultVar} {vs : List AV}, chkRess X rs qs = true → resVals h e rs = some vs →
    ∃ us, (qs.mapM (rv t)).run X.P w = .ok us w ∧ VRs X N vs us
  | [], qs, vs, hc, hv => by
    cases qs with
    | nil => cases hv; exact ⟨[], rfl, rfl⟩
    | cons => simp [chkRess] at hc
  | r :: rs, qs, vs, hc, hv => by
    cases qs with
    | nil => simp [chkRess] at hc
    | cons q qs =>
      simp only [chkRess, bool_and] at hc
      simp only [resVals] at hv
      split at hv
      · rename_i v vs' h1 h2
        cases hv
        obtain ⟨u, g1, g2⟩ := resVal_sound hr he hc.1 h1
        obtain ⟨us, g3, g4⟩ := resVals_sound hr he hc.2 h2
        refine ⟨u :: us, ?_, u, us, rfl, g2, g4⟩
        rw [List.mapM_cons, Sem.run_bind, g1, Result.andThen_ok, Sem.run_bind, g3]
        rfl
      · cases hv

theorem results_sound {h : Heap} {w : World} (hr : HR D X N h w) {e : Env} {t : Array Value} (he : EnvR X N e t) {rs : List MRes} {fn : Func} {v : AV} (hc : chkRess X rs fn.results.toList = true) (hv : fresults h e rs = some v) :
    ∃ u, (results fn t).run X.P w = .ok u w ∧ VR X N v u := by
  unfold fresults at hv
  have key : ∀ vs, resVals h e rs = some vs → ∃ us : List Value, VRs X N vs us ∧ (results fn t).run X.P w = .ok (if h : us.toArray.size = 1 then us.toArray[0] else .tuple us.toArray) w := by
    intro vs hvs
    obtain ⟨us, g1, g2⟩ := resVals_sound hr he hc hvs
    refine ⟨us, g2, ?_⟩
    rw [results_eq, Sem.run_bind, Array.mapM_eq_mapM_toList, Sem.run_map, g1]
    rfl
  split at hv
  · rename_i v' hvs
    cases hv
    obtain ⟨us, g1, g2⟩ := key _ hvs
    obtain ⟨u, ur, rfl, h1, h2⟩ := g1
    simp only [VRs] at h2
    subst h2
    exact ⟨u, g2, h1⟩
  · rename_i vs hne hvs
    cases hv
    obtain ⟨us, g1, g2⟩ := key _ hvs
    have hl := g1.length
    have hne1 : us.toArray.size ≠ 1 := by
      intro e
      simp only [List.size_toArray] at e
      match vs, hl, hne with
      | [x], _, hne => exact hne x rfl
      | [], hl, _ => simp at hl; omega
      | _ :: _ :: _, hl, _ => simp at hl; omega
    rw [dif_neg hne1] at g2
    exact ⟨_, g2, us.toArray, rfl, g1⟩
  · cases hv

theorem hget_hdrop {l : List Nat} : ∀ {h : Heap} {n : Nat} {o : AObj}, hget (hdrop l h) n = some o → hget h n = some o
  | [], n, o, hh => by cases hh
  | (m, p) :: h, n, o, hh => by
    simp only [hdrop] at hh
    split at hh
    · rename_i hm
      have ih := hget_hdrop hh
      simp only [hget]
      by_cases e : m = n
      · exfalso
        subst e
        have : ∀ h : Heap, hget (hdrop l h) m = none := by
          intro h
          induction h with
          | nil => rfl
          | cons p h ih =>
            obtain ⟨q, o⟩ := p
            simp only [hdrop]
            split
            · exact ih
            · rename_i hq
              simp only [hget]
              rw [if_neg (by rintro rfl; exact hq hm)]
              exact ih
        rw [this] at hh
        cases hh
      · rw [if_neg e]; exact ih
    · simp only [hget] at hh ⊢
      split at hh
      · rename_i e; rw [if_pos e]; exact hh
      · rename_i e; rw [if_neg e]; exact hget_hdrop hh

theorem hget_dropLoc {c : Nat} {h : Heap} {n : Nat} {o : AObj} (hh : hget (dropLoc c h) n = some o) : hget h n = some o := by
  unfold dropLoc at hh
  split at hh
  · exact hh
  · exact hget_hdrop hh

end Go.Ev

/- Calls, by the level below. -/
namespace Go.Ev
open Go

variable {X : Cx} {N N' N'' : Nu} {D : ChkD}

/-- An entry does what the call does. -/
def EntryOK (D : ChkD) (X : Cx) (f : Nat) (F : Entry) : Prop :=
  ∀ args st v st', F args st = some (v, st') → ∀ N w us, SR D X N st w → VRs X N args us → ∀ c cs,
    ∃ N' u w', VR X N' v u ∧ SR D X N' st' w' ∧ Gd N st.h w N' st'.h w' ∧ st.nx ≤ st'.nx ∧ (∀ n, n < st.nx → N'.ρ n = N.ρ n) ∧ CallsTo X.P (callFunc (X.φ f) us.toArray) w c cs u w'

structure TabOK (D : ChkD) (X : Cx) (T : Tab) : Prop where
  fn : ∀ f mf, T.en f = none → T.fn f = some mf → ∃ fn c S, X.P.funcs[X.φ f]? = some fn ∧ fn.body = some c ∧ (fn.name == "runtime.NumGoroutine") = false ∧ S ≤ fn.ntmps ∧
    chkC D X S mf.body c = true ∧ chkRess X mf.results fn.results.toList = true
  en : ∀ f F, T.en f = some F → EntryOK D X f F

/-- The marks are taken, one after the other. -/
theorem unwind_marks {b : Frame} {t : Array Value} {todo : List Item} {cs : List Frame} {h : Heap} {B : Nat} :
    ∀ (rs : List Nat) (w : World), HR D X N h w → rs.Nodup → (∀ r ∈ rs, B ≤ r ∧ w.heap[r]? = some (.deferred (some []))) →
      ∃ w', Steps X.P (lone { Fr b t (rs.map fun r => { target := .collected r, args := #[] }) todo with mode := .returning } cs w) (lone { Fr b t [] todo with mode := .returning } cs w') ∧
        HR D X N h w' ∧ w'.heap.size = w.heap.size ∧ w'.tape = w.tape ∧ w'.os = w.os ∧ w'.output = w.output ∧ ∀ k, k < B → w'.heap[k]? = w.heap[k]?
  | [], w, hr, _, _ => ⟨w, .refl _ _, hr, rfl, rfl, rfl, rfl, fun _ _ => rfl⟩
  | r :: rs, w, hr, hn, hd => by
    obtain ⟨hB, hh⟩ := hd r List.mem_cons_self
    let w1 : World := { w with heap := w.heap.setIfInBounds r (.deferred none) }
    have hne : ∀ k, k ≠ r → w1.heap[k]? = w.heap[k]? := fun k hk => by
      show (w.heap.setIfInBounds r _)[k]? = _
      rw [Array.getElem?_setIfInBounds, if_neg (fun e => hk e.symm)]
    have hr1 : HR D X N h w1 := by
      refine ⟨fun n o ho => (hr.objs n o ho).keep (.refl N) (by simp [w1]) (fun a ha => hne _ ?_), hr.sep⟩
      intro e
      have hb : w.heap[a.block]? = some (.deferred (some [])) := by rw [e]; exact hh
      have := hr.objs n o ho
      cases o with
      | cells ty l cs => obtain ⟨b, us, fz, h1, h2, _⟩ := this; rw [h1] at ha; cases ha; rw [h2] at hb; cases hb
      | buf ty es cs => obtain ⟨b, us, fz, h1, h2, _⟩ := this; rw [h1] at ha; cases ha; rw [h2] at hb; cases hb
      | ro cs => obtain ⟨b, h1, ⟨us, t, fz, h2⟩, _⟩ := this; rw [h1] at ha; cases ha; rw [h2] at hb; cases hb
      | map es => obtain ⟨b, mes, clk, h1, h2, _⟩ := this; rw [h1] at ha; cases ha; rw [h2] at hb; cases hb
      | loop st env ps assign body => obtain ⟨b, l, S, h1, h2, _⟩ := this; rw [h1] at ha; cases ha; rw [h2] at hb; cases hb
    rw [List.nodup_cons] at hn
    obtain ⟨w', s1, s2, s3, s4, s5, s6, s7⟩ := unwind_marks (b := b) (t := t) (todo := todo) (cs := cs) (B := B) rs w1 hr1 hn.2 (fun q hq => by
      refine ⟨(hd q (List.mem_cons_of_mem _ hq)).1, ?_⟩
      rw [hne q (by rintro rfl; exact hn.1 hq)]
      exact (hd q (List.mem_cons_of_mem _ hq)).2)
    refine ⟨w', .head (fr_unwind_mark hh) s1, s2, by rw [s3]; simp [w1], s4, s5, s6, fun k hk => ?_⟩
    rw [s7 k hk]
    exact hne k (by omega)

theorem evCallF_sound {ex : ExF} {T : Tab} (hx : CodeOK D X ex) (hT : TabOK D X T) {f : Nat} {args : List AV} {st st' : St} {v : AV} (hv : evCallF T ex f args st = some (v, st')) {w : World} {us : List Value} (hr : SR D X N st w)
    (ha : VRs X N args us) (c : Frame) (cs : List Frame) :
    ∃ N' u w', VR X N' v u ∧ SR D X N' st' w' ∧ Gd N st.h w N' st'.h w' ∧ st.nx ≤ st'.nx ∧ (∀ n, n < st.nx → N'.ρ n = N.ρ n) ∧ CallsTo X.P (callFunc (X.φ f) us.toArray) w c cs u w' := by
  unfold evCallF at hv
  split at hv
  · rename_i F hF
    exact hT.en f F hF args st v st' hv N w us hr ha c cs
  · rename_i hen
    split at hv
    · cases hv
    · rename_i mf hmf
      obtain ⟨fn, code, S, hf, hbody, hname, hS, hchk, hres⟩ := hT.fn f mf hen hmf
      split at hv
      case isFalse => cases hv
      let b : Frame := { (default : Frame) with fn := X.φ f, kind := .normal }
      let t0 : Array Value := us.toArray ++ Array.replicate (fn.ntmps - us.toArray.size) undef
      have hcf : (callFunc (X.φ f) us.toArray).run X.P w = .ok (.enter (X.φ f) us.toArray) w := by
        have hname' : ¬ fn.name = "runtime.NumGoroutine" := by simpa using hname
        simp [callFunc, hf, hname', hbody]
      have henter : Frame.enter X.P (X.φ f) us.toArray .normal = Fr b t0 [] [.code code] := by
        simp [Frame.enter, Fr, hf, hbody, b, t0]; rfl
      have hsize : S ≤ t0.size := by simp [t0]; omega
      -- what follows the body's end
      have fin : ∀ (x : Ex) (e' : Env) (st1 : St), ex mf.body (argEnv 0 args) st = some (x, e', st1) → (x = .norm ∨ x = .ret) → ∀ v, fresults st1.h e' mf.results = some v →
          ∃ N' u w', VR X N' v u ∧ SR D X N' ⟨dropLoc st.nx st1.h, st1.nx⟩ w' ∧ Gd N st.h w N' (dropLoc st.nx st1.h) w' ∧ st.nx ≤ st1.nx ∧ (∀ n, n < st.nx → N'.ρ n = N.ρ n) ∧ CallsTo X.P (callFunc (X.φ f) us.toArray) w c cs u w' := by
        intro x e' st1 hex hxr v hv
        obtain ⟨N1, t1, d1, w1, a1, a2, a3, a4, a5, a6, a7, _, a9⟩ := hx mf.body code S (argEnv 0 args) st x e' st1 hex hchk N b t0 [] [] (c :: cs) w w.heap.size (EnvR.args ha _) hsize hr ⟨[], rfl, List.nodup_nil, by simp⟩ (Nat.le_refl _) (.inl rfl)
        have a9 := a9 _ rfl
        obtain ⟨rs, rfl, hrn, hrd⟩ := a7
        -- to the frame that returns
        obtain ⟨todo, hret⟩ : ∃ todo, Steps X.P (lone (Fr b t0 [] [.code code]) (c :: cs) w) (lone { Fr b t1 (rs.map fun r => { target := .collected r, args := #[] }) todo with mode := .returning } (c :: cs) w1) := by
          rcases hxr with rfl | rfl
          · exact ⟨[], Steps.trans a9 (.one (fr_end rfl))⟩
          · obtain ⟨k2, M', hk2, hk3⟩ := a9
            exact ⟨_, Steps.trans hk2 (.one (hk3.trans (fr_ret rfl)))⟩
        obtain ⟨w2, b1, b2, b3, b4, b5, b6, b7⟩ := unwind_marks (b := b) (t := t1) (todo := todo) (cs := c :: cs) (B := w.heap.size) rs w1 a3.hr hrn hrd
        obtain ⟨u, r1, r2⟩ := results_sound b2 a1 hres hv
        refine ⟨N1, u, w2, r2, ⟨b2.weaken (fun n o ho => hget_dropLoc ho), a3.fresh⟩, ?_, a5, a6, .enter (X.φ f) us.toArray, w, hcf, .inr (.inl ⟨_, _, rfl, ?_⟩)⟩
        · refine ⟨a4.le, by rw [b3]; exact a4.size, b4.trans a4.tape, b5.trans a4.os, b6.trans a4.output, fun k hk hn => by rw [b7 k hk]; exact a4.frame k hk hn, fun n o a h1 h2 => a4.has n o a (hget_dropLoc h1) h2⟩
        · rw [henter]
          exact Steps.trans hret (Steps.trans b1 (.one (fr_return rfl hf r1)))
      split at hv
      · rename_i e' st1 hex
        split at hv
        · rename_i v' hv'
          cases hv
          exact fin _ _ _ hex (.inl rfl) _ hv'
        · cases hv
      · rename_i e' st1 hex
        split at hv
        · rename_i v' hv'
          cases hv
          exact fin _ _ _ hex (.inr rfl) _ hv'
        · cases hv
      · cases hv

end Go.Ev

/- Rounds of loops over functions; calls by value. -/
namespace Go.Ev
open Go

variable {X : Cx} {N N' N'' : Nu} {D : ChkD}

theorem loop_obj {h : Heap} {w : World} (hr : HR D X N h w) {n : Nat} {st : LSt} {env : Env} {ps : List Nat} {as bd : MCode} (hg : hget h n = some (.loop st env ps as bd)) :
    ∃ b l S, N.ρ n = some ⟨b, 0, none⟩ ∧ w.heap[b]? = some (.loop l) ∧ LStR st l.state l.pending ∧ EnvR X N env l.tmps ∧ ps = l.params.toList ∧
      S ≤ l.tmps.size ∧ (∀ t ∈ ps, t < S) ∧ noRF as = true ∧ noRF bd = true ∧ chkC D X S as l.assign = true ∧ chkC D X S bd l.body = true := hr.objs _ _ hg

/-- The state of a loop turns. -/
theorem loop_put {h : Heap} {w : World} (hr : HR D X N h w) {n b : Nat} {st st2 : LSt} {env : Env} {ps : List Nat} {as bd : MCode} {l : Loop} {s : LoopState} {p : Option Code} (hg : hget h n = some (.loop st env ps as bd))
    (hρ : N.ρ n = some ⟨b, 0, none⟩) (hl : w.heap[b]? = some (.loop l)) (hs : LStR st2 s p) :
    HR D X N (hset h n (.loop st2 env ps as bd)) { w with heap := w.heap.setIfInBounds b (.loop { l with state := s, pending := p }) } ∧
      Gd N h w N (hset h n (.loop st2 env ps as bd)) { w with heap := w.heap.setIfInBounds b (.loop { l with state := s, pending := p }) } := by
  obtain ⟨b', l', S, h1, h2, h3, h4⟩ := loop_obj hr hg
  rw [hρ] at h1
  cases h1
  rw [hl] at h2
  cases h2
  refine HR.put hr hg rfl hρ (by simp) rfl rfl rfl (fun k hk => ?_) ?_
  · rw [Array.getElem?_setIfInBounds, if_neg (fun e => hk e.symm)]
  · exact ⟨b, { l with state := s, pending := p }, S, hρ, by simp [lt_of_get hl], hs, h4⟩

theorem evYield_sound {ex : ExF} (hx : CodeOK D X ex) {l : Nat} {args : List AV} {st st' : St} {v : AV} (hv : evYield ex l args st = some (v, st')) {w : World} {us : List Value} (hr : SR D X N st w)
    (ha : VRs X N args us) {b : Nat} (hρ : N.ρ l = some ⟨b, 0, none⟩) (c : Frame) (cs : List Frame) :
    ∃ N' u w', VR X N' v u ∧ SR D X N' st' w' ∧ Gd N st.h w N' st'.h w' ∧ st.nx ≤ st'.nx ∧ (∀ n, n < st.nx → N'.ρ n = N.ρ n) ∧ CallsTo X.P (Instr.yield b us.toArray) w c cs u w' := by
  unfold evYield at hv
  split at hv
  case h_2 => cases hv
  rename_i env ps as bd hg
  obtain ⟨b', r, S, h1, h2, h3, h4, h5, h6, h7, h8, h9, h10, h11⟩ := loop_obj hr.hr hg
  rw [hρ] at h1
  cases h1
  split at hv
  case isFalse => cases hv
  rename_i hlen
  split at hv
  case h_2 => cases hv
  rename_i e1 st1 hex1
  split at hv
  case h_2 => cases hv
  rename_i env1 ps1 as1 bd1 hg1
  split at hv
  case h_2 => cases hv
  rename_i x e2 st2 hex2
  split at hv
  case h_2 => cases hv
  rename_i env2 ps2 as2 bd2 hg2
  -- the yield
  have hal := ha.length
  have hps : us.toArray.size = r.params.size := by simp only [List.size_toArray]; rw [h5] at hlen; simpa [← hal] using hlen
  let tm : Array Value := (r.params.zip us.toArray).foldl (fun tmps (p : Nat × Value) => tmps.setIfInBounds p.1 p.2) r.tmps
  have hyield : (Instr.yield b us.toArray).run X.P w = .ok (.round b r.fn tm r.assign r.body) w := by
    rw [run_yield h2 hps]
  let fb : Frame := { fn := r.fn, tmps := tm, todo := [], defers := [], mode := .run, kind := .normal, roundOf := some b }
  have hround : Frame.round b r.fn tm r.assign r.body .normal = Fr fb tm [] [.code r.assign, .beginRound, .code r.body] := rfl
  have htm : EnvR X N (bindEnv env ps args) tm := by
    have := EnvR.bind (ps := ps) h4 ha (fun p hp => by have := h7 p hp; omega)
    have e : tm = (ps.zip us).foldl (fun t p => t.setIfInBounds p.1 p.2) r.tmps := by
      simp only [tm]
      rw [← Array.foldl_toList, Array.toList_zip, h5]
    rw [e]; exact this
  have htms : tm.size = r.tmps.size := by
    have : ∀ (l : List (Nat × Value)) (t : Array Value), (l.foldl (fun t p => t.setIfInBounds p.1 p.2) t).size = t.size := by
      intro l
      induction l with
      | nil => intro t; rfl
      | cons p l ih => intro t; rw [List.foldl_cons, ih]; simp
    simp only [tm]
    rw [← Array.foldl_toList, this]
  obtain ⟨N1, t1, d1, w1, a1, a2, a3, a4, a5, a6, a7, a8, a9⟩ := hx as r.assign S _ st .norm e1 st1 hex1 h10 N fb tm [] [.beginRound, .code r.body] (c :: cs) w w.heap.size htm (by omega) hr ⟨[], rfl, List.nodup_nil, by simp⟩ (Nat.le_refl _) (.inr h8)
  obtain rfl := a8 h8
  have a9 := a9 _ rfl
  simp only [OutM] at a9
  obtain ⟨b1, r1, S1, i1, i2, i3, i4⟩ := loop_obj a3.hr hg1
  have hρ1 : N1.ρ l = some ⟨b, 0, none⟩ := (a4.le _ _ hρ).1
  rw [hρ1] at i1
  cases i1
  obtain ⟨j1, j2⟩ := loop_put a3.hr hg1 hρ1 i2 (st2 := .busy) (s := .busy) (p := r1.pending) rfl
  have hbegin := fr_beginRound (P := X.P) (b := fb) (t := t1) (d := []) (k := [.code r.body]) (cs := c :: cs) rfl i2 i3.1
  have hsr1 : SR D X N1 ⟨hset st1.h l (.loop .busy env1 ps1 as1 bd1), st1.nx⟩ { w1 with heap := w1.heap.setIfInBounds b (.loop { r1 with state := .busy }) } := ⟨j1, a3.fresh⟩
  obtain ⟨N2, t2, d2, w2, c1, c2, c3, c4, c5, c6, c7, c8, c9⟩ := hx bd r.body S e1 _ x e2 st2 hex2 h11 N1 fb t1 [] [] (c :: cs) _ w.heap.size a1 (by omega) hsr1 ⟨[], rfl, List.nodup_nil, by simp⟩ (by
    have := a4.size
    simp only [Array.size_setIfInBounds]
    exact this) (.inr h9)
  have c9 := c9 _ rfl
  obtain rfl := c8 h9
  obtain ⟨b2, r2, S2, k1, k2, k3, k4⟩ := loop_obj c3.hr hg2
  have hρ2 : N2.ρ l = some ⟨b, 0, none⟩ := (c4.le _ _ hρ1).1
  rw [hρ2] at k1
  cases k1
  have hgd : Gd N st.h w N2 st2.h w2 := a4.trans (j2.trans c4)
  have hpre : Steps X.P (lone (Frame.round b r.fn tm r.assign r.body .normal) (c :: cs) w) (lone (Fr fb t1 [] [.code r.body]) (c :: cs) { w1 with heap := w1.heap.setIfInBounds b (.loop { r1 with state := .busy }) }) := by
    rw [hround]
    exact Steps.trans a9 (.one hbegin)
  cases x with
  | norm =>
    cases hv
    obtain ⟨m1, m2⟩ := loop_put c3.hr hg2 hρ2 k2 (st2 := .ready) (s := .ready) (p := none) ⟨rfl, rfl⟩
    refine ⟨N2, .bool true, _, rfl, ⟨m1, c3.fresh⟩, hgd.trans m2, by simp only at c5 ⊢; omega, fun n hn => by rw [c6 n (by simp only; omega), a6 n hn], _, _, hyield, .inr (.inr ⟨_, _, _, _, _, rfl, ?_⟩)⟩
    exact Steps.trans hpre (Steps.trans c9 (.one (fr_round_end rfl rfl k2)))
  | exit i =>
    cases hv
    obtain ⟨m1, m2⟩ := loop_put c3.hr hg2 hρ2 k2 (st2 := .done (.exit i)) (s := .done) (p := some (.exit i)) ⟨rfl, rfl⟩
    obtain ⟨kk, M', hk1, hk2, hk3⟩ := c9
    refine ⟨N2, .bool false, _, rfl, ⟨m1, c3.fresh⟩, hgd.trans m2, by simp only at c5 ⊢; omega, fun n hn => by rw [c6 n (by simp only; omega), a6 n hn], _, _, hyield, .inr (.inr ⟨_, _, _, _, _, rfl, ?_⟩)⟩
    exact Steps.trans hpre (Steps.trans hk2 (.one (hk3.trans (fr_round_exit rfl rfl k2 (by rw [hk1]; rfl)))))
  | ret =>
    cases hv
    obtain ⟨m1, m2⟩ := loop_put c3.hr hg2 hρ2 k2 (st2 := .done .ret) (s := .done) (p := some .ret) ⟨rfl, rfl⟩
    obtain ⟨kk, M', hk2, hk3⟩ := c9
    refine ⟨N2, .bool false, _, rfl, ⟨m1, c3.fresh⟩, hgd.trans m2, by simp only at c5 ⊢; omega, fun n hn => by rw [c6 n (by simp only; omega), a6 n hn], _, _, hyield, .inr (.inr ⟨_, _, _, _, _, rfl, ?_⟩)⟩
    exact Steps.trans hpre (Steps.trans hk2 (.one (hk3.trans (fr_round_ret rfl rfl k2))))

theorem evCall_sound {ex : ExF} {T : Tab} (hx : CodeOK D X ex) (hT : TabOK D X T) : CallOK D X (evCall T ex) := by
  intro f args st v st' hv N w uf us hr hf ha c cs
  unfold evCall at hv
  split at hv
  · rename_i g first cap
    obtain ⟨ua, uc, rfl, h1, h2⟩ := hf
    obtain ⟨N', u, w', a1, a2, a3, a4, a5, a6⟩ := evCallF_sound hx hT hv hr ((h1.append ha).append h2) c cs
    refine ⟨N', u, w', a1, a2, a3, a4, a5, ?_⟩
    have : callSem (.func (.func (X.φ g)) ua uc) us.toArray = callFunc (X.φ g) (ua.toList ++ us ++ uc.toList).toArray := by
      simp only [callSem, Deferred.ofValue, pure_bind, invoke]
      congr 1
      apply Array.ext'
      simp
    rw [this]
    exact a6
  · rename_i l
    obtain ⟨a, hρ, rfl⟩ := hf
    obtain ⟨st0, env, ps, as, bd, hg⟩ : ∃ st0 env ps as bd, hget st.h l = some (.loop st0 env ps as bd) := by
      unfold evYield at hv
      split at hv
      · exact ⟨_, _, _, _, _, ‹_›⟩
      · cases hv
    obtain ⟨b, r, S, h1, _⟩ := loop_obj hr.hr hg
    rw [hρ] at h1
    cases h1
    obtain ⟨N', u, w', a1, a2, a3, a4, a5, a6⟩ := evYield_sound hx hv hr ha hρ c cs
    refine ⟨N', u, w', a1, a2, a3, a4, a5, ?_⟩
    have : callSem (.func (.yield b) #[] #[]) us.toArray = Instr.yield b us.toArray := by
      simp [callSem, Deferred.ofValue, invoke]
    rw [this]
    exact a6
  · cases hv

end Go.Ev

/- The evaluator's code does what the model's machine does. -/
namespace Go.Ev
open Go

variable {X : Cx} {N N' N'' : Nu} {D : ChkD}

section
variable {P : Program} {b : Frame} {t : Array Value} {d : List Deferred} {k : List Item} {cs : List Frame} {w : World}

def rfWorld (w : World) (fn : FuncId) (t : Array Value) (ps : Array Tmp) (as bd : Code) : World :=
  { w with heap := (w.heap.push (.deferred (some []))).push (.loop { state := .ready, pending := none, fn, tmps := t, params := ps, assign := as, body := bd, defers := w.heap.size }) }

theorem rf_sem (f : Operand) (l : Nat) (b : Frame) (t : Array Value) (d : List Deferred) (todo : List Item) :
    (do let dd ← resolve (Fr b t d todo).eval { callee := .value f, args := #[.const (.func (.yield l) #[] #[])], argTypes := #[] } 0; invoke dd.target dd.args : Sem Next) = callSem (evT t f) #[.func (.yield l) #[] #[]] := by
  rw [Fr_eval]
  simp [resolve, callSem, evT]

theorem rf_enter {ps : Array Tmp} {as bd : Code} :
    (Instr.enterLoop b.fn t ps as bd none).run P w = .ok (w.heap.size + 1, [{ target := .collected w.heap.size, args := #[] }]) (rfWorld w b.fn t ps as bd) := by
  simp [Instr.enterLoop, rfWorld]
  rfl

theorem frG_rangeFunc {f : Operand} {ps : Array Tmp} {as bd : Code} (hb : b.roundOf = none) :
    (stepG P true { frame := Fr b t d (.code (.rangeFunc f ps as bd) :: k), callers := cs, status := .running, dying := none } w).bare =
      (stepG.apply P true (Fr b t ({ target := .collected w.heap.size, args := #[] } :: d) (.inRangeFunc (w.heap.size + 1) :: k)) cs none
        (callSem (evT t f) #[.func (.yield (w.heap.size + 1)) #[] #[]]) (rfWorld w b.fn t ps as bd)).bare := by
  have hs := rf_sem f (w.heap.size + 1) b t ({ target := .collected w.heap.size, args := #[] } :: d) (.inRangeFunc (w.heap.size + 1) :: k)
  have he := rf_enter (P := P) (b := b) (t := t) (w := w) (ps := ps) (as := as) (bd := bd)
  simp only [Fr, hb] at hs
  simp only [stepG, stepG.exec, Fr, hb, Sem.runT_eq, he, GStep.bare_after, List.singleton_append, hs]

/-- A loop over a function, up to where the function has returned. -/
theorem fr_rangeFunc {f : Operand} {ps : Array Tmp} {as bd : Code} (hb : b.roundOf = none) {u : Value} {w' : World}
    (hc : CallsTo P (callSem (evT t f) #[.func (.yield (w.heap.size + 1)) #[] #[]]) (rfWorld w b.fn t ps as bd) (Fr b t ({ target := .collected w.heap.size, args := #[] } :: d) (.inRangeFunc (w.heap.size + 1) :: k)) cs u w') :
    Steps P (lone (Fr b t d (.code (.rangeFunc f ps as bd) :: k)) cs w) (lone (Fr b t ({ target := .collected w.heap.size, args := #[] } :: d) (.endRangeFunc (w.heap.size + 1) :: k)) cs w') := by
  obtain ⟨nx, w1, hrun, h⟩ := hc
  have hg := frG_rangeFunc (P := P) (d := d) (k := k) (cs := cs) (w := w) (f := f) (ps := ps) (as := as) (bd := bd) (t := t) hb
  have hfin : (Fr b t ({ target := .collected w.heap.size, args := #[] } :: d) (.inRangeFunc (w.heap.size + 1) :: k)).finish u = Fr b t ({ target := .collected w.heap.size, args := #[] } :: d) (.endRangeFunc (w.heap.size + 1) :: k) := rfl
  rcases h with ⟨hu, rfl⟩ | ⟨g, us, rfl, hst⟩ | ⟨l, g, us, a, e, rfl, hst⟩
  · refine .one (step_lone_go ?_)
    rw [hg, ← hfin]
    cases nx <;> simp only [outOf] at hu <;> first | (cases hu; done) | skip
    · cases hu; simp [stepG.apply, hrun]
    · cases hu; simp [stepG.apply, hrun]
  · rw [← hfin]
    refine .head (step_lone_go ?_) hst
    rw [hg]
    simp [stepG.apply, hrun, Fr]
  · rw [← hfin]
    refine .head (step_lone_go ?_) hst
    rw [hg]
    simp [stepG.apply, hrun, Fr]

theorem fr_endRangeFunc {l : Nat} {r : Loop} (hl : w.heap[l]? = some (.loop r)) (hr : r.state ≠ .busy) :
    step P (lone (Fr b t d (.endRangeFunc l :: k)) cs w) = .next (lone (Fr b t d ((r.pending.map Item.code).toList ++ k)) cs { w with heap := w.heap.setIfInBounds l (.loop { r with state := .exhausted }) }) := by
  refine step_lone_go ?_
  have he : (Instr.endLoop l).run P w = .ok r.pending { w with heap := w.heap.setIfInBounds l (.loop { r with state := .exhausted }) } := by
    simp [Instr.endLoop, Instr.getLoop, getObj, setObj, Sem.run, hl, hr]
  simp [stepG, stepG.exec, Fr, he]

end

/-- What is asked of the regions whose order is drawn. -/
def DrawOK (D : ChkD) (X : Cx) : Prop :=
  ∀ call, CallOK D X call → ∀ S ops is e st e' st', runR call [] st.nx is e ⟨st.h, st.nx + is.length⟩ = some (e', st') → D X S is ops = true →
    ∀ N b t d k cs w tt, EnvR X N e t → S ≤ t.size → SR D X N st w →
      ∃ N' t' w', EnvR X N' e' t' ∧ t'.size = t.size ∧ SR D X N' st' w' ∧ Gd N st.h w N' st'.h w' ∧ st.nx ≤ st'.nx ∧ (∀ n, n < st.nx → N'.ρ n = N.ρ n) ∧
        Steps X.P (lone (Fr b t d (.inRegion ops (Region.schedule (X.P.follows .mixedOrders) ops tt) :: k)) cs w) (lone (Fr b t' d (.inRegion ops [] :: k)) cs w')

theorem EnvR.keep {e : Env} {t : Array Value} (h : EnvR X N e t) (l : List Nat) : EnvR X N (keepE l e) t := by
  have : ∀ (l : List Nat) (i : Nat), eget (l.map fun t => (t, eget e t)) i = eget e i ∨ eget (l.map fun t => (t, eget e t)) i = .bot := by
    intro l i
    induction l with
    | nil => exact .inr rfl
    | cons a l ih =>
      simp only [List.map_cons, eget]
      by_cases h : a = i
      · subst h; rw [if_pos rfl]; exact .inl rfl
      · rw [if_neg h]; exact ih
  intro i
  rcases this l i with h1 | h1
  · simp only [keepE, h1]; exact h i
  · simp only [keepE, h1]; trivial

/-- The world of a loop over a function, as the relation sees it. -/
theorem rf_world {S : Nat} {e : Env} {st : St} {t : Array Value} {w : World} {ps : Array Nat} {as bd : MCode} {asC bdC : Code} {fn : FuncId} (hr : SR D X N st w) (he : EnvR X N e t) (hs : S ≤ t.size)
    (hps : ∀ p ∈ ps.toList, p < S) (h1 : noRF as = true) (h2 : noRF bd = true) (h3 : chkC D X S as asC = true) (h4 : chkC D X S bd bdC = true) :
    ∃ N', SR D X N' ⟨(st.nx, .loop .ready e ps.toList as bd) :: st.h, st.nx + 1⟩ (rfWorld w fn t ps asC bdC) ∧ Gd N st.h w N' ((st.nx, .loop .ready e ps.toList as bd) :: st.h) (rfWorld w fn t ps asC bdC) ∧
      N'.ρ st.nx = some ⟨w.heap.size + 1, 0, none⟩ ∧ ∀ n, n < st.nx → N'.ρ n = N.ρ n := by
  have hn := hr.fresh st.nx (Nat.le_refl _)
  let w1 : World := { w with heap := w.heap.push (.deferred (some [])) }
  have hr1 : HR D X N st.h w1 := ⟨fun n o ho => (hr.hr.objs n o ho).keep (.refl N) (by simp [w1]) (fun a ha => heap_push_lt w _ ((hr.hr.objs n o ho).lt ha)), hr.hr.sep⟩
  have g1 : Gd N st.h w N st.h w1 := ⟨.refl N, by simp [w1], rfl, rfl, rfl, fun b hb _ => heap_push_lt w _ hb, fun n o a h1 h2 => .inl ⟨n, o, a, h1, h2, rfl, id⟩⟩
  have hsz : w1.heap.size = w.heap.size + 1 := by simp [w1]
  obtain ⟨a1, a2⟩ := hr1.new (n := st.nx) (k := 0) (obj := .loop { state := .ready, pending := none, fn, tmps := t, params := ps, assign := asC, body := bdC, defers := w.heap.size })
    (o := .loop .ready e ps.toList as bd) hn
    ⟨w1.heap.size, _, S, by simp [Nu.add], by simp; rfl, ⟨rfl, rfl⟩, he.mono (Nu.le_add hn), rfl, hs, hps, h1, h2, h3, h4⟩
  rw [hsz] at a1 a2
  refine ⟨_, ⟨a1, fun n hn' => ?_⟩, g1.trans a2, by simp [Nu.add], fun n hlt => by simp [Nu.add, Nat.ne_of_lt hlt]⟩
  have : n ≠ st.nx := by simp only at hn'; omega
  simp only [Nu.add, if_neg this]
  exact hr.fresh n (by simp only at hn'; omega)

theorem evStep_ok {ex : ExF} {T : Tab} (hx : CodeOK D X ex) (hT : TabOK D X T) (hD : DrawOK D X) : CodeOK D X (evStep T ex) := by
  intro c code S e st x e' st' hv hc N b t d k cs w B he hs hr hd hB hrf
  have hcall := evCall_sound hx hT
  unfold chkC at hc
  split at hc <;> (first | (cases hc; done) | skip) <;> (try simp only [bool_and, beq_iff_eq, List.all_eq_true, decide_eq_true_eq] at hc)
  · -- an annotation ahead
    simp only [evStep] at hv
    obtain ⟨N', t', d', w', a1, a2, a3, a4, a5, a6, a7, a8, a9⟩ := hx _ _ S _ _ _ _ _ hv hc N b t d k cs w B (he.keep _) hs hr hd hB (hrf.imp id (fun h => by simpa [noRF] using h))
    exact ⟨N', t', d', w', a1, a2, a3, a4, a5, a6, a7, fun h => a8 (by simpa [noRF] using h), a9⟩
  · -- skip
    simp only [evStep] at hv
    cases hv
    exact ⟨N, t, d, w, he, rfl, hr, .refl _ _ _, Nat.le_refl _, fun _ _ => rfl, hd, fun _ => rfl, fun M hM => .one (hM.trans fr_skip)⟩
  · simp only [evStep] at hv
    cases hv
    exact ⟨N, t, d, w, he, rfl, hr, .refl _ _ _, Nat.le_refl _, fun _ _ => rfl, hd, fun _ => rfl, fun M hM => .one (hM.trans fr_label)⟩
  · -- a region
    rename_i is i os
    simp only [evStep] at hv
    split at hv
    · rename_i e1 st1 hops
      cases hv
      obtain ⟨N', t', w', a1, a2, a3, a4, a5, a6, a7⟩ := ops_sound hcall b d k cs is 0 os.toList N e e' st st' t w hops hc (by simp) he hs hr
      refine ⟨N', t', d, w', a1, a2, a3, a4, a5, a6, hd.keep hr.hr a4, fun _ => rfl, fun M hM => ?_⟩
      simp only [Array.length_toList] at a7
      rw [← List.range_eq_range'] at a7
      exact .head (hM.trans fr_region) (Steps.trans a7 (.one fr_region_end))
    · cases hv
  · -- a region that draws
    rename_i is i os
    simp only [evStep] at hv
    split at hv
    · rename_i e1 st1 hops
      cases hv
      have hr0 : SR D X N st { w with drawn := w.drawn + 1 } := ⟨hr.hr.drawn _, hr.fresh⟩
      obtain ⟨N', t', w', a1, a2, a3, a4, a5, a6, a7⟩ := hD _ hcall S os is e st e' st' hops hc N b t d k cs { w with drawn := w.drawn + 1 } (w.tape w.drawn (.order b.fn i)) he hs hr0
      have g := (Gd.drawn N st.h w (w.drawn + 1)).trans a4
      exact ⟨N', t', d, w', a1, a2, a3, g, a5, a6, hd.keep hr.hr g, fun _ => rfl, fun M hM => .head (hM.trans fr_region_draw) (Steps.trans a7 (.one fr_region_end))⟩
    · cases hv
  · -- seq
    rename_i a b1 c1 d1 hnk
    have hrfa : b.roundOf = none ∨ noRF a = true := hrf.imp id (fun h => by simp only [noRF, bool_and] at h; exact h.1)
    have hrfb : b.roundOf = none ∨ noRF b1 = true := hrf.imp id (fun h => by simp only [noRF, bool_and] at h; exact h.2)
    have hnrf : noRF (.seq a b1) = true → noRF a = true ∧ noRF b1 = true := fun h => by simpa [noRF] using h
    have hv' : (match ex a e st with | some (.norm, e, st) => ex b1 e st | r => r) = some (x, e', st') := by
      unfold evStep at hv
      split at hv <;> first | (exfalso; rename_i heq; cases heq; done) | skip
      · rename_i heq
        cases heq
        exact (hnk _ rfl).elim
      · rename_i heq
        cases heq
        exact hv
    have first : ∀ x1 e1 st1, ex a e st = some (x1, e1, st1) → ∃ N' t' d' w', EnvR X N' e1 t' ∧ t'.size = t.size ∧ SR D X N' st1 w' ∧ Gd N st.h w N' st1.h w' ∧ st.nx ≤ st1.nx ∧ (∀ n, n < st.nx → N'.ρ n = N.ρ n) ∧ DefOK B d' w' ∧
        (noRF a = true → d' = d) ∧ ∀ M, step X.P M = step X.P (lone (Fr b t d (.code (.seq c1 d1) :: k)) cs w) → OutM X.P b (.code d1 :: k) cs M t' d' w' x1 := by
      intro x1 e1 st1 h1
      obtain ⟨N', t', d', w', a1, a2, a3, a4, a5, a6, a7, a8, a9⟩ := hx _ _ S _ _ _ _ _ h1 hc.1 N b t d (.code d1 :: k) cs w B he hs hr hd hB hrfa
      refine ⟨N', t', d', w', a1, a2, a3, a4, a5, a6, a7, a8, fun M hM => ?_⟩
      have a9 := a9 _ rfl
      cases x1 with
      | norm => exact .head (hM.trans fr_seq) a9
      | exit i => obtain ⟨k2, M', g1, g2, g3⟩ := a9; exact ⟨k2, M', g1, .head (hM.trans fr_seq) g2, g3⟩
      | ret => obtain ⟨k2, M', g2, g3⟩ := a9; exact ⟨k2, M', .head (hM.trans fr_seq) g2, g3⟩
    split at hv'
    · rename_i e1 st1 h1
      obtain ⟨N1, t1, d1', w1, a1, a2, a3, a4, a5, a6, a7, a8, a9⟩ := first _ _ _ h1
      obtain ⟨N2, t2, d2, w2, b1', b2, b3, b4, b5, b6, b7, b8, b9⟩ := hx _ _ S _ _ _ _ _ hv' hc.2 N1 b t1 d1' k cs w1 B a1 (by omega) a3 a7 (Nat.le_trans hB a4.size) hrfb
      refine ⟨N2, t2, d2, w2, b1', by omega, b3, a4.trans b4, by omega, fun n hn => by rw [b6 n (by omega), a6 n hn], b7, fun h => by rw [b8 (hnrf h).2, a8 (hnrf h).1], fun M hM => ?_⟩
      have a9 := a9 M hM
      have b9 := b9 _ rfl
      simp only [OutM] at a9
      cases x with
      | norm => exact Steps.trans a9 b9
      | exit i => obtain ⟨k2, M', g1, g2, g3⟩ := b9; exact ⟨k2, M', g1, Steps.trans a9 g2, g3⟩
      | ret => obtain ⟨k2, M', g2, g3⟩ := b9; exact ⟨k2, M', Steps.trans a9 g2, g3⟩
    · rename_i hne
      obtain ⟨N1, t1, d1', w1, a1, a2, a3, a4, a5, a6, a7, a8, a9⟩ := first _ _ _ hv'
      refine ⟨N1, t1, d1', w1, a1, a2, a3, a4, a5, a6, a7, fun h => a8 (hnrf h).1, fun M hM => ?_⟩
      have a9 := a9 M hM
      cases x with
      | norm => exact (hne _ _ hv').elim
      | exit i => obtain ⟨k2, M', g1, g2, g3⟩ := a9; exact ⟨k2, M', by rw [g1]; rfl, g2, g3⟩
      | ret => exact a9
  · -- cond
    rename_i xo a b1 yo c1 d1
    have h1 := evs_of he _ _ hc.1
    simp only [evStep] at hv
    split at hv
    · rename_i hb
      rw [hb] at h1
      simp only [VR] at h1
      obtain ⟨N', t', d', w', a1, a2, a3, a4, a5, a6, a7, a8, a9⟩ := hx _ _ S _ _ _ _ _ hv hc.2.1 N b t d k cs w B he hs hr hd hB (hrf.imp id (fun h => by simp only [noRF, bool_and] at h; exact h.1))
      refine ⟨N', t', d', w', a1, a2, a3, a4, a5, a6, a7, fun h => a8 (by simp only [noRF, bool_and] at h; exact h.1), fun M hM => ?_⟩
      have a9 := a9 _ rfl
      have hst := fr_cond (P := X.P) (b := b) (d := d) (k := k) (cs := cs) (w := w) (x := c1) (y := d1) h1
      simp only [if_true] at hst
      cases x with
      | norm => exact Steps.head (hM.trans hst) a9
      | exit i => obtain ⟨k2, M', g1, g2, g3⟩ := a9; exact ⟨k2, M', g1, Steps.head (hM.trans hst) g2, g3⟩
      | ret => obtain ⟨k2, M', g2, g3⟩ := a9; exact ⟨k2, M', Steps.head (hM.trans hst) g2, g3⟩
    · rename_i hb
      rw [hb] at h1
      simp only [VR] at h1
      obtain ⟨N', t', d', w', a1, a2, a3, a4, a5, a6, a7, a8, a9⟩ := hx _ _ S _ _ _ _ _ hv hc.2.2 N b t d k cs w B he hs hr hd hB (hrf.imp id (fun h => by simp only [noRF, bool_and] at h; exact h.2))
      refine ⟨N', t', d', w', a1, a2, a3, a4, a5, a6, a7, fun h => a8 (by simp only [noRF, bool_and] at h; exact h.2), fun M hM => ?_⟩
      have a9 := a9 _ rfl
      have hst := fr_cond (P := X.P) (b := b) (d := d) (k := k) (cs := cs) (w := w) (x := c1) (y := d1) h1
      simp only [Bool.false_eq_true, if_false] at hst
      cases x with
      | norm => exact Steps.head (hM.trans hst) a9
      | exit i => obtain ⟨k2, M', g1, g2, g3⟩ := a9; exact ⟨k2, M', g1, Steps.head (hM.trans hst) g2, g3⟩
      | ret => obtain ⟨k2, M', g2, g3⟩ := a9; exact ⟨k2, M', Steps.head (hM.trans hst) g2, g3⟩
    · cases hv
  · -- block
    rename_i i b1 j c1
    obtain ⟨rfl, hc⟩ := hc
    simp only [evStep] at hv
    have main : ∀ x1 e1 st1, ex b1 e st = some (x1, e1, st1) → ∃ N' t' d' w', EnvR X N' e1 t' ∧ t'.size = t.size ∧ SR D X N' st1 w' ∧ Gd N st.h w N' st1.h w' ∧ st.nx ≤ st1.nx ∧ (∀ n, n < st.nx → N'.ρ n = N.ρ n) ∧ DefOK B d' w' ∧
        (noRF b1 = true → d' = d) ∧ ∀ M, step X.P M = step X.P (lone (Fr b t d (.code (.block i c1) :: k)) cs w) → OutM X.P b (.inBlock i :: k) cs M t' d' w' x1 := by
      intro x1 e1 st1 h1
      obtain ⟨N', t', d', w', a1, a2, a3, a4, a5, a6, a7, a8, a9⟩ := hx _ _ S _ _ _ _ _ h1 hc N b t d (.inBlock i :: k) cs w B he hs hr hd hB (hrf.imp id (fun h => by simpa [noRF] using h))
      refine ⟨N', t', d', w', a1, a2, a3, a4, a5, a6, a7, a8, fun M hM => ?_⟩
      have a9 := a9 _ rfl
      cases x1 with
      | norm => exact .head (hM.trans fr_block) a9
      | exit i => obtain ⟨k2, M', g1, g2, g3⟩ := a9; exact ⟨k2, M', g1, .head (hM.trans fr_block) g2, g3⟩
      | ret => obtain ⟨k2, M', g2, g3⟩ := a9; exact ⟨k2, M', .head (hM.trans fr_block) g2, g3⟩
    have hnrf : noRF (.block i b1) = true → noRF b1 = true := fun h => by simpa [noRF] using h
    split at hv
    · rename_i id' e1 st1 h1
      obtain ⟨N1, t1, d1', w1, a1, a2, a3, a4, a5, a6, a7, a8, a9⟩ := main _ _ _ h1
      split at hv
      · rename_i hid
        cases hv
        subst hid
        refine ⟨N1, t1, d1', w1, a1, a2, a3, a4, a5, a6, a7, fun h => a8 (hnrf h), fun M hM => ?_⟩
        obtain ⟨k2, M', g1, g2, g3⟩ := a9 M hM
        exact Steps.trans g2 (.one (g3.trans (fr_exit (by rw [g1]; simp [exitTo]))))
      · rename_i hid
        cases hv
        refine ⟨N1, t1, d1', w1, a1, a2, a3, a4, a5, a6, a7, fun h => a8 (hnrf h), fun M hM => ?_⟩
        obtain ⟨k2, M', g1, g2, g3⟩ := a9 M hM
        refine ⟨k2, M', ?_, g2, g3⟩
        rw [g1]
        have : (i == id') = false := by simp; exact fun h => hid h.symm
        simp [exitTo, this]
    · rename_i hne
      obtain ⟨N1, t1, d1', w1, a1, a2, a3, a4, a5, a6, a7, a8, a9⟩ := main _ _ _ hv
      refine ⟨N1, t1, d1', w1, a1, a2, a3, a4, a5, a6, a7, fun h => a8 (hnrf h), fun M hM => ?_⟩
      have a9 := a9 M hM
      cases x with
      | norm => exact Steps.trans a9 (.one fr_inBlock)
      | exit id' => exact (hne _ _ _ hv).elim
      | ret => exact a9
  · -- loop
    rename_i b1 c1
    simp only [evStep] at hv
    have hrf1 : b.roundOf = none ∨ noRF b1 = true := hrf.imp id (fun h => by simpa [noRF] using h)
    have hnrf : noRF (.loop b1) = true → noRF b1 = true := fun h => by simpa [noRF] using h
    have main : ∀ x1 e1 st1, ex b1 e st = some (x1, e1, st1) → ∃ N' t' d' w', EnvR X N' e1 t' ∧ t'.size = t.size ∧ SR D X N' st1 w' ∧ Gd N st.h w N' st1.h w' ∧ st.nx ≤ st1.nx ∧ (∀ n, n < st.nx → N'.ρ n = N.ρ n) ∧ DefOK B d' w' ∧
        (noRF b1 = true → d' = d) ∧ ∀ M, step X.P M = step X.P (lone (Fr b t d (.code (.loop c1) :: k)) cs w) → OutM X.P b (.inLoop c1 :: k) cs M t' d' w' x1 := by
      intro x1 e1 st1 h1
      obtain ⟨N', t', d', w', a1, a2, a3, a4, a5, a6, a7, a8, a9⟩ := hx _ _ S _ _ _ _ _ h1 hc N b t d (.inLoop c1 :: k) cs w B he hs hr hd hB hrf1
      refine ⟨N', t', d', w', a1, a2, a3, a4, a5, a6, a7, a8, fun M hM => ?_⟩
      have a9 := a9 _ rfl
      cases x1 with
      | norm => exact .head (hM.trans fr_loop) a9
      | exit i => obtain ⟨k2, M', g1, g2, g3⟩ := a9; exact ⟨k2, M', g1, .head (hM.trans fr_loop) g2, g3⟩
      | ret => obtain ⟨k2, M', g2, g3⟩ := a9; exact ⟨k2, M', .head (hM.trans fr_loop) g2, g3⟩
    split at hv
    · rename_i e1 st1 h1
      obtain ⟨N1, t1, d1', w1, a1, a2, a3, a4, a5, a6, a7, a8, a9⟩ := main _ _ _ h1
      obtain ⟨N2, t2, d2, w2, b1', b2, b3, b4, b5, b6, b7, b8, b9⟩ := hx (.loop b1) (.loop c1) S _ _ _ _ _ hv (by simpa [chkC] using hc) N1 b t1 d1' k cs w1 B a1 (by omega) a3 a7 (Nat.le_trans hB a4.size) hrf
      refine ⟨N2, t2, d2, w2, b1', by omega, b3, a4.trans b4, by omega, fun n hn => by rw [b6 n (by omega), a6 n hn], b7, fun h => by rw [b8 h, a8 (hnrf h)], fun M hM => ?_⟩
      -- the frame stands at the loop's next round: the same place to which the loop itself steps
      have b9 := b9 (lone (Fr b t1 d1' (.inLoop c1 :: k)) cs w1) (fr_inLoop.trans fr_loop.symm)
      have a9 := a9 M hM
      simp only [OutM] at a9
      cases x with
      | norm => exact Steps.trans a9 b9
      | exit i => obtain ⟨k2, M', g1, g2, g3⟩ := b9; exact ⟨k2, M', g1, Steps.trans a9 g2, g3⟩
      | ret => obtain ⟨k2, M', g2, g3⟩ := b9; exact ⟨k2, M', Steps.trans a9 g2, g3⟩
    · rename_i hne
      obtain ⟨N1, t1, d1', w1, a1, a2, a3, a4, a5, a6, a7, a8, a9⟩ := main _ _ _ hv
      refine ⟨N1, t1, d1', w1, a1, a2, a3, a4, a5, a6, a7, fun h => a8 (hnrf h), fun M hM => ?_⟩
      have a9 := a9 M hM
      cases x with
      | norm => exact (hne _ _ hv).elim
      | exit i => obtain ⟨k2, M', g1, g2, g3⟩ := a9; exact ⟨k2, M', by rw [g1]; rfl, g2, g3⟩
      | ret => exact a9
  · -- scope
    rename_i b1 c1
    simp only [evStep] at hv
    obtain ⟨N', t', d', w', a1, a2, a3, a4, a5, a6, a7, a8, a9⟩ := hx _ _ S _ _ _ _ _ hv hc N b t d (.inScope c1 :: k) cs w B he hs hr hd hB (hrf.imp id (fun h => by simpa [noRF] using h))
    refine ⟨N', t', d', w', a1, a2, a3, a4, a5, a6, a7, fun h => a8 (by simpa [noRF] using h), fun M hM => ?_⟩
    have a9 := a9 _ rfl
    cases x with
    | norm => exact .head (hM.trans fr_scope) (Steps.trans a9 (.one fr_inScope))
    | exit i => obtain ⟨k2, M', g1, g2, g3⟩ := a9; exact ⟨k2, M', by rw [g1]; rfl, .head (hM.trans fr_scope) g2, g3⟩
    | ret => obtain ⟨k2, M', g2, g3⟩ := a9; exact ⟨k2, M', .head (hM.trans fr_scope) g2, g3⟩
  · -- a loop over a function
    rename_i f ps as bd g qs asC bdC
    obtain ⟨hf, rfl, hps, h1, h2, h3, h4⟩ := hc
    have hb : b.roundOf = none := hrf.elim id (fun h => by simp [noRF] at h)
    simp only [evStep] at hv
    split at hv
    case h_2 => cases hv
    rename_i v1 st1 hcl
    obtain ⟨N1, s1, s2, s3, s4⟩ := rf_world (fn := b.fn) (ps := qs) hr he hs hps h1 h2 h3 h4
    have hyl : VR X N1 (.yield st.nx) (.func (.yield (w.heap.size + 1)) #[] #[]) := ⟨_, s3, rfl⟩
    have hfv : VR X N1 (f.ev e) (evT t g) := evs_of (he.mono s2.le) _ _ hf
    obtain ⟨N2, u, w2, c1, c2, c3, c4, c5, c6⟩ := hcall _ _ _ _ _ hcl N1 _ _ _ s1 hfv (VRs.one hyl) (Fr b t ({ target := .collected w.heap.size, args := #[] } :: d) (.inRangeFunc (w.heap.size + 1) :: k)) cs
    have hρ2 : N2.ρ st.nx = some ⟨w.heap.size + 1, 0, none⟩ := (c3.le _ _ s3).1
    have hgd : Gd N st.h w N2 st1.h w2 := s2.trans c3
    have hsteps := fr_rangeFunc (P := X.P) (d := d) (k := k) (cs := cs) (t := t) hb c6
    have hd2 : DefOK B ({ target := .collected w.heap.size, args := #[] } :: d) w2 := by
      have e1 : DefOK B ({ target := .collected w.heap.size, args := #[] } :: d) (rfWorld w b.fn t qs asC bdC) := by
        obtain ⟨rs, rfl, hn, hdr⟩ := hd
        refine ⟨w.heap.size :: rs, rfl, List.nodup_cons.2 ⟨fun hm => ?_, hn⟩, fun r hr' => ?_⟩
        · have := lt_of_get (hdr _ hm).2
          omega
        · rcases List.mem_cons.1 hr' with rfl | hm
          · refine ⟨hB, ?_⟩
            simp only [rfWorld]
            rw [Array.getElem?_push, if_neg (by simp), Array.getElem?_push, if_pos rfl]
          · obtain ⟨q1, q2⟩ := hdr _ hm
            have := lt_of_get q2
            refine ⟨q1, ?_⟩
            simp only [rfWorld]
            rw [Array.getElem?_push, if_neg (by simp; omega), Array.getElem?_push, if_neg (by omega)]
            exact q2
      exact e1.keep s1.hr c3
    -- what both ends have in common
    have fin : ∀ (lst : LSt) (env : Env) (ps' : List Nat) (as' bd' : MCode) (x' : Ex), hget st1.h st.nx = some (.loop lst env ps' as' bd') → (∀ s p, LStR lst s p → s ≠ .busy ∧ p = jumpOf x') →
        ∃ N' t' d' w', EnvR X N' e t' ∧ t'.size = t.size ∧ SR D X N' ⟨hdel st1.h st.nx, st1.nx⟩ w' ∧ Gd N st.h w N' (hdel st1.h st.nx) w' ∧ st.nx ≤ st1.nx ∧ (∀ n, n < st.nx → N'.ρ n = N.ρ n) ∧ DefOK B d' w' ∧
          (noRF (.rangeFunc f qs.toList as bd) = true → d' = d) ∧ ∀ M, step X.P M = step X.P (lone (Fr b t d (.code (.rangeFunc g qs asC bdC) :: k)) cs w) → OutM X.P b k cs M t' d' w' x' := by
      intro lst env ps' as' bd' x' hg hl
      obtain ⟨bk, r, S1, i1, i2, i3, i4⟩ := loop_obj c2.hr hg
      rw [hρ2] at i1
      cases i1
      obtain ⟨l1, l2⟩ := hl _ _ i3
      let w3 : World := { w2 with heap := w2.heap.setIfInBounds (w.heap.size + 1) (.loop { r with state := .exhausted }) }
      have hne : ∀ q, q ≠ w.heap.size + 1 → w3.heap[q]? = w2.heap[q]? := fun q hq => by
        show (w2.heap.setIfInBounds _ _)[q]? = _
        rw [Array.getElem?_setIfInBounds, if_neg (fun e => hq e.symm)]
      have hsub : ∀ m o, hget (hdel st1.h st.nx) m = some o → hget st1.h m = some o := by
        intro m o ho
        rw [hget_hdel] at ho
        split at ho
        · cases ho
        · exact ho
      have hr3 : HR D X N2 (hdel st1.h st.nx) w3 := by
        refine ⟨fun n o ho => ?_, (c2.hr.weaken hsub).sep⟩
        refine (c2.hr.objs n o (hsub n o ho)).keep (.refl _) (by simp [w3]) (fun a ha => hne _ ?_)
        intro e
        have hnn : n ≠ st.nx := by
          rintro rfl
          rw [hget_hdel, if_pos rfl] at ho
          cases ho
        exact hnn (c2.hr.sep st.nx n _ _ _ a hg (hsub n o ho) rfl hρ2 ha (by simpa using e.symm)).symm
      have hg3 : Gd N st.h w N2 (hdel st1.h st.nx) w3 :=
        ⟨hgd.le, by simpa [w3] using hgd.size, hgd.tape, hgd.os, hgd.output, fun q hq hn => by rw [hne q (by omega)]; exact hgd.frame q hq hn, fun n o a h1 h2 => hgd.has n o a (hsub _ _ h1) h2⟩
      refine ⟨N2, t, { target := .collected w.heap.size, args := #[] } :: d, w3, he.mono hgd.le, rfl, ⟨hr3, c2.fresh⟩, hg3, by simp only at c4; omega, fun n hn => by rw [c5 n (by simp only; omega), s4 n hn], ?_, fun h => by simp [noRF] at h, fun M hM => ?_⟩
      · obtain ⟨rs, q1, q2, q3⟩ := hd2
        refine ⟨rs, q1, q2, fun r' hr' => ⟨(q3 r' hr').1, ?_⟩⟩
        rw [hne r' ?_]
        · exact (q3 r' hr').2
        · rintro rfl
          have := (q3 _ hr').2
          rw [i2] at this
          cases this
      · have hend := fr_endRangeFunc (P := X.P) (b := b) (t := t) (d := { target := .collected w.heap.size, args := #[] } :: d) (k := k) (cs := cs) i2 l1
        have hp : (r.pending.map Item.code).toList = ((jumpOf x').map Item.code).toList := by rw [l2]
        rw [hp] at hend
        have hall : Steps X.P M (lone (Fr b t ({ target := .collected w.heap.size, args := #[] } :: d) (((jumpOf x').map Item.code).toList ++ k)) cs w3) := by
          have h0 : Steps X.P (lone (Fr b t d (.code (.rangeFunc g qs asC bdC) :: k)) cs w) (lone (Fr b t ({ target := .collected w.heap.size, args := #[] } :: d) (((jumpOf x').map Item.code).toList ++ k)) cs w3) := Steps.trans hsteps (.one hend)
          obtain ⟨n, hn⟩ := h0
          cases n with
          | zero =>
            exfalso
            simp only [runN, Stepped.next.injEq] at hn
            have := congrArg (fun m : Machine => (m.gs[0]?).map (fun g => g.frame.defers.length)) hn
            simp [lone, Fr] at this
          | succ n =>
            refine ⟨n + 1, ?_⟩
            simp only [runN] at hn ⊢
            rw [hM]
            exact hn
        cases x' with
        | norm => exact hall
        | exit i => exact ⟨k, _, rfl, hall, rfl⟩
        | ret => exact ⟨k, _, hall, rfl⟩
    split at hv
    · rename_i env ps' as' bd' hg
      cases hv
      exact fin _ _ _ _ _ .norm hg (fun s p h => ⟨by rw [h.1]; simp, h.2⟩)
    · rename_i x1 env ps' as' bd' hg
      cases hv
      exact fin _ _ _ _ _ x hg (fun s p h => ⟨by rw [h.1]; simp, h.2⟩)
    · cases hv
  · -- exit
    simp only [evStep] at hv
    cases hv
    subst hc
    exact ⟨N, t, d, w, he, rfl, hr, .refl _ _ _, Nat.le_refl _, fun _ _ => rfl, hd, fun _ => rfl, fun M hM => ⟨k, M, rfl, .refl _ _, hM⟩⟩
  · -- ret
    simp only [evStep] at hv
    cases hv
    exact ⟨N, t, d, w, he, rfl, hr, .refl _ _ _, Nat.le_refl _, fun _ _ => rfl, hd, fun _ => rfl, fun M hM => ⟨k, M, .refl _ _, hM⟩⟩
  · -- stuck
    cases hv

/-- The evaluator is sound. -/
theorem exec_ok {T : Tab} (hT : TabOK D X T) (hD : DrawOK D X) : ∀ n, CodeOK D X (exec T n)
  | 0 => by intro c code S e st x e' st' hv; cases hv
  | n + 1 => evStep_ok (exec_ok hT hD n) hT hD

end Go.Ev
