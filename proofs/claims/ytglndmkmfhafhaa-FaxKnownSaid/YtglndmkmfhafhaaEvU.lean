/- What an operation looks at; it answers alike where that is alike. -/
import Derived.Test.YtglndmkmfhafhaaEvO
import Derived.Orders
import Derived.Below
namespace Go.Ev
open Go

def PO.aos : PO → List AO
  | .mov x | .un _ x | .conv _ x | .faddr _ x | .field _ _ x | .extr _ x | .lenOf _ x | .capOf x | .nilck x | .iface _ x | .same x => [x]
  | .pick a b c => [a, b, c]
  | .bin _ x y | .iaddrA _ _ x y | .iaddrS _ x y | .idxA _ _ _ x y | .idxS x y | .eqA _ _ x y | .eqB _ x y | .eqN _ _ x y => [x, y]
  | .mkfn _ a b => a ++ b
  | .build _ ps => ps.map (·.2.2)
  | .subS x a b => x :: (a.toList ++ b.toList)
  | .subL _ x a b c | .subA _ _ x a b c => x :: (a.toList ++ (b.toList ++ c.toList))
  | .minmax _ xs => xs
  | .konst _ | .stuck => []

def RO.aos : RO → List AO
  | .load _ x | .b2s x | .mlen x => [x]
  | .lookup _ _ _ m k => [m, k]

def NO.aos : NO → List AO
  | .alloc .. | .mkMap => []
  | .box _ _ x | .s2b _ x => [x]
  | .buildSl _ _ _ ps => ps.map (·.2.2)
  | .mkSl _ _ _ _ a b => [a, b]

def WO.aos : WO → List AO
  | .store _ a x | .append _ _ _ _ a x | .copy _ a x => [a, x]
  | .mput _ a b c => [a, b, c]
  | .call f xs => f :: xs

def MO.aos : MO → List AO
  | .p o => o.aos
  | .r o => o.aos
  | .n o => o.aos
  | .w o => o.aos

theorem afill_congr {e1 e2 : AO → AV} : ∀ {ps : List (Nat × Nat × AO)} {cs : List AV}, (∀ a ∈ ps.map (·.2.2), e1 a = e2 a) → afill e1 cs ps = afill e2 cs ps
  | [], _, _ => rfl
  | (o, s, x) :: ps, cs, h => by
    have hx : e1 x = e2 x := h x (by simp)
    simp only [afill, hx]
    split
    · exact afill_congr (fun a ha => h a (by simp only [List.map_cons, List.mem_cons]; exact .inr ha))
    · rfl

theorem opt_congr {e1 e2 : AO → AV} {a : Option AO} (h : ∀ x ∈ a.toList, e1 x = e2 x) : a.map e1 = a.map e2 := by
  cases a with
  | none => rfl
  | some x => simp [h x (by simp)]

theorem PO.congr {e1 e2 : AO → AV} {o : PO} (h : ∀ a ∈ o.aos, e1 a = e2 a) : PO.run e1 o = PO.run e2 o := by
  cases o with
  | mkfn f a b =>
    simp only [PO.aos, List.mem_append] at h
    simp only [PO.run]
    rw [List.map_congr_left (fun x hx => h x (.inl hx)), List.map_congr_left (fun x hx => h x (.inr hx))]
  | build z ps => simp only [PO.run]; rw [afill_congr h]
  | minmax m xs => simp only [PO.run]; rw [show List.map e1 xs = List.map e2 xs from List.map_congr_left h]
  | konst v => rfl
  | stuck => rfl
  | subS x a b =>
    simp only [PO.aos, List.mem_cons, List.mem_append] at h
    simp only [PO.run, h x (.inl rfl), opt_congr (fun y hy => h y (.inr (.inl hy))), opt_congr (fun y hy => h y (.inr (.inr hy)))]
  | subL es x a b c =>
    simp only [PO.aos, List.mem_cons, List.mem_append] at h
    simp only [PO.run, h x (.inl rfl), opt_congr (fun y hy => h y (.inr (.inl hy))), opt_congr (fun y hy => h y (.inr (.inr (.inl hy)))), opt_congr (fun y hy => h y (.inr (.inr (.inr hy))))]
  | subA n es x a b c =>
    simp only [PO.aos, List.mem_cons, List.mem_append] at h
    simp only [PO.run, h x (.inl rfl), opt_congr (fun y hy => h y (.inr (.inl hy))), opt_congr (fun y hy => h y (.inr (.inr (.inl hy)))), opt_congr (fun y hy => h y (.inr (.inr (.inr hy))))]
  | pick a b c =>
    simp only [PO.aos, List.mem_cons, List.not_mem_nil, or_false] at h
    simp only [PO.run, h a (.inl rfl), h b (.inr (.inl rfl)), h c (.inr (.inr rfl))]
  | bin op x y => simp only [PO.aos, List.mem_cons, List.not_mem_nil, or_false] at h; simp only [PO.run, h x (.inl rfl), h y (.inr rfl)]
  | iaddrA n es x y => simp only [PO.aos, List.mem_cons, List.not_mem_nil, or_false] at h; simp only [PO.run, h x (.inl rfl), h y (.inr rfl)]
  | iaddrS es x y => simp only [PO.aos, List.mem_cons, List.not_mem_nil, or_false] at h; simp only [PO.run, h x (.inl rfl), h y (.inr rfl)]
  | idxA n es s x y => simp only [PO.aos, List.mem_cons, List.not_mem_nil, or_false] at h; simp only [PO.run, h x (.inl rfl), h y (.inr rfl)]
  | idxS x y => simp only [PO.aos, List.mem_cons, List.not_mem_nil, or_false] at h; simp only [PO.run, h x (.inl rfl), h y (.inr rfl)]
  | eqA g ks x y => simp only [PO.aos, List.mem_cons, List.not_mem_nil, or_false] at h; simp only [PO.run, h x (.inl rfl), h y (.inr rfl)]
  | eqB g x y => simp only [PO.aos, List.mem_cons, List.not_mem_nil, or_false] at h; simp only [PO.run, h x (.inl rfl), h y (.inr rfl)]
  | eqN g k x y => simp only [PO.aos, List.mem_cons, List.not_mem_nil, or_false] at h; simp only [PO.run, h x (.inl rfl), h y (.inr rfl)]
  | mov x => simp only [PO.run, h x (by simp [PO.aos])]
  | un op x => simp only [PO.run, h x (by simp [PO.aos])]
  | conv k x => simp only [PO.run, h x (by simp [PO.aos])]
  | faddr o x => simp only [PO.run, h x (by simp [PO.aos])]
  | field o s x => simp only [PO.run, h x (by simp [PO.aos])]
  | extr i x => simp only [PO.run, h x (by simp [PO.aos])]
  | lenOf s x => simp only [PO.run, h x (by simp [PO.aos])]
  | capOf x => simp only [PO.run, h x (by simp [PO.aos])]
  | nilck x => simp only [PO.run, h x (by simp [PO.aos])]
  | iface t x => simp only [PO.run, h x (by simp [PO.aos])]
  | same x => simp only [PO.run, h x (by simp [PO.aos])]

theorem RO.congr {e1 e2 : AO → AV} {hp : Heap} {o : RO} (h : ∀ a ∈ o.aos, e1 a = e2 a) : RO.run e1 hp o = RO.run e2 hp o := by
  cases o with
  | load s x => cases s <;> simp only [RO.run, h x (by simp [RO.aos])]
  | b2s x => simp only [RO.run, h x (by simp [RO.aos])]
  | mlen x => simp only [RO.run, h x (by simp [RO.aos])]
  | lookup kk z ok m k => simp only [RO.run, h m (by simp [RO.aos]), h k (by simp [RO.aos])]

theorem NO.congr {e1 e2 : AO → AV} {n : Nat} {o : NO} (h : ∀ a ∈ o.aos, e1 a = e2 a) : NO.run e1 n o = NO.run e2 n o := by
  cases o with
  | alloc t l z => rfl
  | mkMap => rfl
  | box t l x => simp only [NO.run, h x (by simp [NO.aos])]
  | s2b t x => simp only [NO.run, h x (by simp [NO.aos])]
  | buildSl t n z ps => simp only [NO.run]; rw [afill_congr h]
  | mkSl t e b z l c => simp only [NO.run, h l (by simp [NO.aos]), h c (by simp [NO.aos])]

theorem WO.congr {call : CallF} {e1 e2 : AO → AV} {st : St} {o : WO} (h : ∀ a ∈ o.aos, e1 a = e2 a) : WO.run call e1 st o = WO.run call e2 st o := by
  cases o with
  | store s a x => simp only [WO.run, h a (by simp [WO.aos]), h x (by simp [WO.aos])]
  | append t e b z a x => simp only [WO.run, h a (by simp [WO.aos]), h x (by simp [WO.aos])]
  | copy e a x => simp only [WO.run, h a (by simp [WO.aos]), h x (by simp [WO.aos])]
  | mput k a b c => simp only [WO.run, h a (by simp [WO.aos]), h b (by simp [WO.aos]), h c (by simp [WO.aos])]
  | call f xs =>
    simp only [WO.run, h f (by simp [WO.aos])]
    rw [List.map_congr_left (fun x hx => h x (by simp [WO.aos, hx]))]

/-- A read answers alike in a larger heap. -/
theorem RO.grow {ev : AO → AV} {h h' : Heap} (hs : ∀ n o, hget h n = some o → hget h' n = some o) {o : RO} {v : AV} (hv : RO.run ev h o = some v) : RO.run ev h' o = some v := by
  have c1 : ∀ n off v, rdCell h n off = some v → rdCell h' n off = some v := by
    intro n off v hv
    unfold rdCell at hv ⊢
    split at hv <;> first | (cases hv; done) | (rename_i hg; rw [hs _ _ hg]; exact hv)
  have c2 : ∀ n off k v, rdCells h n off k = some v → rdCells h' n off k = some v := by
    intro n off k v hv
    unfold rdCells at hv ⊢
    split at hv <;> first | (cases hv; done) | (rename_i hg; rw [hs _ _ hg]; exact hv)
  cases o with
  | load s x =>
    cases s with
    | none =>
      simp only [RO.run] at hv ⊢
      split at hv
      · exact c1 _ _ _ hv
      · cases hv
    | some k =>
      simp only [RO.run] at hv ⊢
      split at hv
      · simp only [Option.map_eq_some_iff] at hv ⊢
        obtain ⟨a, h1, h2⟩ := hv
        exact ⟨a, c2 _ _ _ _ h1, h2⟩
      · cases hv
  | b2s x =>
    simp only [RO.run] at hv ⊢
    split at hv
    · exact hv
    · split at hv
      · rename_i cs hc
        rw [c2 _ _ _ _ hc]
        exact hv
      · cases hv
    · cases hv
  | lookup kk z ok m k =>
    simp only [RO.run] at hv ⊢
    split at hv
    · exact hv
    · split at hv
      · rename_i es hg
        rw [hs _ _ hg]
        exact hv
      · cases hv
    · cases hv
  | mlen m =>
    simp only [RO.run] at hv ⊢
    split at hv
    · exact hv
    · split at hv
      · rename_i es hg
        rw [hs _ _ hg]
        exact hv
      · cases hv
    · cases hv

mutual
theorem avEq_eq : ∀ {a b : AV}, avEq a b = true → a = b
  | .bot, b, h => by cases b <;> simp_all [avEq]
  | .bool a, b, h => by cases b <;> simp_all [avEq]
  | .int j a, b, h => by cases b <;> simp_all [avEq]
  | .str s, b, h => by
    cases b <;> simp only [avEq] at h <;> first | (cases h; done) | (rw [seq8_iff.1 h])
  | .ptr a b, c, h => by cases c <;> simp_all [avEq]
  | .nilptr, b, h => by cases b <;> simp_all [avEq]
  | .slice a b c d, e, h => by cases e <;> simp_all [avEq]
  | .nilslice, b, h => by cases b <;> simp_all [avEq]
  | .map a, b, h => by cases b <;> simp_all [avEq]
  | .nilmap, b, h => by cases b <;> simp_all [avEq]
  | .fn f x y, b, h => by
    cases b <;> simp only [avEq, bool_and, beq_iff_eq] at h <;> first | (cases h; done) | skip
    rw [h.1, avEqs_eq h.2.1, avEqs_eq h.2.2]
  | .yield a, b, h => by cases b <;> simp_all [avEq]
  | .nilfn, b, h => by cases b <;> simp_all [avEq]
  | .iface t x, b, h => by
    cases b <;> simp only [avEq, bool_and, beq_iff_eq] at h <;> first | (cases h; done) | skip
    rw [h.1, avEq_eq h.2]
  | .niliface, b, h => by cases b <;> simp_all [avEq]
  | .agg x, b, h => by
    cases b <;> simp only [avEq] at h <;> first | (cases h; done) | skip
    rw [avEqs_eq h]
  | .tuple x, b, h => by
    cases b <;> simp only [avEq] at h <;> first | (cases h; done) | skip
    rw [avEqs_eq h]
theorem avEqs_eq : ∀ {a b : List AV}, avEqs a b = true → a = b
  | [], b, h => by cases b <;> simp_all [avEqs]
  | x :: a, b, h => by
    cases b with
    | nil => simp [avEqs] at h
    | cons y b =>
      simp only [avEqs, bool_and] at h
      rw [avEq_eq h.1, avEqs_eq h.2]
end

end Go.Ev

/- Regions whose order is drawn: what is asked of the order that the evaluator takes. -/
namespace Go.Ev
open Go

structure G where
  i : Nat
  o : MI
  res : List Nat

/-- The entries, the last ahead, each with the reads that are made once more behind it. -/
def grpR : List G → List RI → Option (List G)
  | acc, [] => some acc
  | acc, .op i o :: r => grpR (⟨i, o, []⟩ :: acc) r
  | g :: acc, .re j :: r => grpR (⟨g.i, g.o, j :: g.res⟩ :: acc) r
  | [], .re _ :: _ => none

def MI.isN (o : MI) : Bool := match o.op with | .n _ => true | _ => false
def MI.isR (o : MI) : Bool := match o.op with | .r _ => true | _ => false
def MI.isW (o : MI) : Bool := match o.op with | .w _ => true | _ => false

def aoT : List AO → List Nat
  | [] => []
  | .t n :: r => n :: aoT r
  | .k _ :: r => aoT r

def MI.reads (o : MI) : List Nat :=
  match o.guard with
  | none => aoT o.op.aos
  | some (t, _) => t :: aoT o.op.aos

def dstIn (d : Option Nat) (l : List Nat) : Bool := match d with | none => false | some d => hmem d l
def dstEq (a b : Option Nat) : Bool := match a, b with | some a, some b => decide (a = b) | _, _ => false

def apartE (p g : MI) : Bool := !dstIn p.dst g.reads && (!dstIn g.dst p.reads && !dstEq p.dst g.dst)

/-- Which operations are made ahead of each. -/
def mkA (ops : List Oper) : List (List Nat) :=
  ops.foldl (fun A o => A ++ [(o.after.toList.filter (Region.binds .any)).flatMap fun e => e.on :: A.getD e.on []]) []

def ltA (A : List (List Nat)) (a j : Nat) : Bool := hmem a (A.getD j [])

def ancOK (A : List (List Nat)) (ops : Array Oper) : Bool :=
  (List.range ops.size).all fun i => (A.getD i []).all fun a => match ops[i]? with
    | some o => o.after.toList.any fun e => Region.binds .any e && (decide (e.on = a) || ltA A a e.on)
    | none => false

def onOK (ops : Array Oper) : Bool :=
  (List.range ops.size).all fun i => match ops[i]? with | some o => o.after.toList.all fun e => !Region.binds .any e || decide (e.on < i) | none => false

/-- p is ahead of g in the evaluator's order. -/
def pairOK (A : List (List Nat)) (p g : G) : Bool :=
  decide (p.i ≠ g.i) && (!ltA A g.i p.i && (ltA A p.i g.i ||
    (apartE p.o g.o && (!(p.o.isN && (g.o.isR || g.o.isW)) && (!(p.o.isW && (g.o.isR || g.o.isW)) && (!(p.o.isR && g.o.isW) || hmem p.i g.res))))))

/-- From the last entry back to the read: nothing there writes what the read looks at. -/
def reOK (j : Nat) (d : Option Nat) (rs : List Nat) : List G → Bool
  | [] => false
  | k :: ks => if k.i = j then !dstIn d rs else !dstIn k.o.dst rs && (!dstEq k.o.dst d && reOK j d rs ks)

def gfind : List G → Nat → Option MI
  | [], _ => none
  | g :: r, i => if g.i = i then some g.o else gfind r i

def pwOK (A : List (List Nat)) : List G → Bool
  | [] => true
  | g :: ps => ps.all (fun p => pairOK A p g) && (g.res.all (fun j => match gfind (g :: ps) j with | some o => reOK j o.dst o.reads (g :: ps) | none => false) && pwOK A ps)

def chkD : ChkD := fun X S L ops =>
  match grpR [] L with
  | none => false
  | some gs =>
    decide (gs.length = ops.size) && ((List.range ops.size).all (fun i => gs.any fun g => decide (g.i = i)) &&
      (gs.all (fun g => match ops[g.i]? with | some o => chkI X S ops g.o o | none => false) && (onOK ops && (ancOK (mkA ops.toList) ops && pwOK (mkA ops.toList) gs))))

end Go.Ev

/- Regions whose order is drawn: what the evaluator's run leaves behind, step by step. -/
namespace Go.Ev
open Go

variable {X : Cx} {N N' N'' : Nu} {D : ChkD}

inductive Eff where
  | non
  | new (n : Nat) (b : AObj)
  | post (st : St)

def Eff.ap : Eff → St → St
  | .non, s => s
  | .new n b, s => ⟨(n, b) :: s.h, s.nx⟩
  | .post s, _ => s

structure En where
  g : G
  e : Env
  st : St
  v : AV
  f : Eff

inductive Good (call : CallF) (nm : Nat) (o : MI) (e : Env) (st : St) : AV → Eff → Nat → Prop where
  | skip : wanted e o.guard = some false → Good call nm o e st unmade .non nm
  | p {p : PO} {v : AV} : wanted e o.guard = some true → o.op = .p p → PO.run (AO.ev e) p = some v → Good call nm o e st v .non nm
  | r {p : RO} {v : AV} : wanted e o.guard = some true → o.op = .r p → RO.run (AO.ev e) st.h p = some v → Good call nm o e st v .non nm
  | n {p : NO} {v : AV} {b : AObj} : wanted e o.guard = some true → o.op = .n p → NO.run (AO.ev e) nm p = some (v, b) → Good call nm o e st v (.new nm b) (nm + 1)
  | w {p : WO} {v : AV} {st' : St} : wanted e o.guard = some true → o.op = .w p → WO.run call (AO.ev e) st p = some (v, st') → Good call nm o e st v (.post st') nm

theorem good_of_runI {call : CallF} {nm nm' : Nat} {o : MI} {e e' : Env} {st st' : St} (h : runI call nm o e st = some (e', st', nm')) :
    ∃ v f, Good call nm o e st v f nm' ∧ e' = eput e o.dst v ∧ st' = f.ap st ∧ nm' ≤ nm + 1 := by
  unfold runI at h
  split at h
  · rename_i hw
    split at h
    · rename_i p hp
      split at h
      · rename_i v b hn
        cases h
        exact ⟨v, _, .n hw hp hn, rfl, rfl, Nat.le_refl _⟩
      · cases h
    · rename_i m hm
      split at h
      · rename_i v st1 hr
        cases h
        cases hop : o.op with
        | n p => exact absurd hop (hm p)
        | p p =>
          rw [hop] at hr
          simp only [MO.run] at hr
          split at hr
          · rename_i u hu
            cases hr
            exact ⟨_, _, .p hw hop hu, rfl, rfl, Nat.le_succ _⟩
          · cases hr
        | r p =>
          rw [hop] at hr
          simp only [MO.run] at hr
          split at hr
          · rename_i u hu
            cases hr
            exact ⟨_, _, .r hw hop hu, rfl, rfl, Nat.le_succ _⟩
          · cases hr
        | w p =>
          rw [hop] at hr
          exact ⟨_, _, .w hw hop hr, rfl, rfl, Nat.le_succ _⟩
      · cases h
  · rename_i hw
    cases h
    exact ⟨_, _, .skip hw, rfl, rfl, Nat.le_succ _⟩
  · cases h

/-- The read answers as it did. -/
def ReF (o : MI) (e : Env) (st : St) : Prop := wanted e o.guard = some true → ∃ p d, o.op = .r p ∧ o.dst = some d ∧ RO.run (AO.ev e) st.h p = some (eget e d)

theorem reF_of {done : List (Nat × MI)} {i : Nat} {e : Env} {st : St} (h : reI done i e st = true) : ∃ o, dfind done i = some o ∧ ReF o e st := by
  unfold reI at h
  split at h
  · cases h
  · rename_i o ho
    refine ⟨o, ho, fun hw => ?_⟩
    rw [hw] at h
    simp only at h
    split at h
    · rename_i p d hp hd
      split at h
      · rename_i v hv
        rw [avEq_eq h] at hv
        exact ⟨p, d, hp, hd, hv⟩
      · cases h
    · cases h

inductive Tr (call : CallF) (nm0 : Nat) (e0 : Env) (st0 : St) : List En → Nat → Env → St → Prop where
  | nil : Tr call nm0 e0 st0 [] nm0 e0 st0
  | op {T : List En} {nm nm' : Nat} {e : Env} {st : St} {g : G} {v : AV} {f : Eff} : Tr call nm0 e0 st0 T nm e st → Good call nm g.o e st v f nm' →
      (∀ j ∈ g.res, ∃ o, gfind (g :: T.map En.g) j = some o ∧ ReF o (eput e g.o.dst v) (f.ap st)) → Tr call nm0 e0 st0 (⟨g, e, st, v, f⟩ :: T) nm' (eput e g.o.dst v) (f.ap st)

theorem tr_of_runR {call : CallF} {nm0 : Nat} {e0 : Env} {st0 : St} : ∀ (L : List RI) (done : List (Nat × MI)) (nm : Nat) (e e' : Env) (st st' : St) (T : List En) (gs : List G),
    runR call done nm L e st = some (e', st') → Tr call nm0 e0 st0 T nm e st → (∀ j, dfind done j = gfind (T.map En.g) j) → grpR (T.map En.g) L = some gs →
    ∃ T' nm', Tr call nm0 e0 st0 T' nm' e' st' ∧ T'.map En.g = gs ∧ nm' ≤ nm + L.length
  | [], done, nm, e, e', st, st', T, gs, hv, ht, hd, hg => by
    cases hv
    cases hg
    exact ⟨T, nm, ht, rfl, Nat.le_refl _⟩
  | .op i o :: L, done, nm, e, e', st, st', T, gs, hv, ht, hd, hg => by
    simp only [runR] at hv
    split at hv
    · rename_i e1 st1 nm1 h1
      obtain ⟨v, f, hgood, rfl, rfl, hle⟩ := good_of_runI h1
      simp only [grpR] at hg
      obtain ⟨T', nm', a, b, c⟩ := tr_of_runR L _ _ _ _ _ _ (⟨⟨i, o, []⟩, e, st, v, f⟩ :: T) gs hv (.op (g := ⟨i, o, []⟩) ht hgood (fun j hj => by cases hj))
        (fun j => by simp only [dfind, List.map_cons, gfind, hd]) hg
      exact ⟨T', nm', a, b, by simp only [List.length_cons]; omega⟩
    · cases hv
  | .re j :: L, done, nm, e, e', st, st', T, gs, hv, ht, hd, hg => by
    simp only [runR] at hv
    split at hv
    · rename_i h1
      obtain ⟨o, ho, hre⟩ := reF_of h1
      cases ht with
      | nil => simp [grpR] at hg
      | @op T nm2 _ e2 st2 g v f ht hgood hres =>
        simp only [List.map_cons, grpR] at hg
        obtain ⟨T', nm', a, b, c⟩ := tr_of_runR L done _ _ _ _ _ (⟨⟨g.i, g.o, j :: g.res⟩, e2, st2, v, f⟩ :: T) gs hv
          (.op (g := ⟨g.i, g.o, j :: g.res⟩) ht hgood (fun q hq => by
            rcases List.mem_cons.1 hq with rfl | hq
            · refine ⟨o, ?_, hre⟩
              rw [hd] at ho
              exact ho
            · exact hres q hq))
          (fun q => by rw [hd]; rfl) hg
        exact ⟨T', nm', a, b, by simp only [List.length_cons]; omega⟩
    · cases hv

/-- What the operations of a set leave behind. -/
def ES (S : Nat → Bool) (e0 : Env) : List En → Env
  | [] => e0
  | k :: T => if S k.g.i = true then eput (ES S e0 T) k.g.o.dst k.v else ES S e0 T

def HS (S : Nat → Bool) (st0 : St) : List En → St
  | [] => st0
  | k :: T => if S k.g.i = true then k.f.ap (HS S st0 T) else HS S st0 T

def news (S : Nat → Bool) : List En → Heap
  | [] => []
  | k :: T => if S k.g.i = true then (match k.f with | .new n b => (n, b) :: news S T | _ => news S T) else news S T

variable {call : CallF} {nm0 : Nat} {e0 : Env} {st0 : St}

theorem tr_full {T : List En} {nm : Nat} {e : Env} {st : St} (h : Tr call nm0 e0 st0 T nm e st) : ES (fun _ => true) e0 T = e ∧ HS (fun _ => true) st0 T = st := by
  induction h with
  | nil => exact ⟨rfl, rfl⟩
  | op _ _ _ ih => exact ⟨by simp only [ES, if_true, ih.1], by simp only [HS, if_true, ih.2]⟩

theorem Good.nm_le {nm nm' : Nat} {o : MI} {e : Env} {st : St} {v : AV} {f : Eff} (h : Good call nm o e st v f nm') : nm ≤ nm' ∧ ∀ n b, f = .new n b → n = nm ∧ nm' = nm + 1 := by
  cases h with
  | n => exact ⟨Nat.le_succ _, fun n b h => by cases h; exact ⟨rfl, rfl⟩⟩
  | _ => exact ⟨Nat.le_refl _, fun n b h => by cases h⟩

theorem tr_names {T : List En} {nm : Nat} {e : Env} {st : St} (h : Tr call nm0 e0 st0 T nm e st) : nm0 ≤ nm ∧ ∀ k ∈ T, ∀ n b, k.f = .new n b → nm0 ≤ n ∧ n < nm := by
  induction h with
  | nil => exact ⟨Nat.le_refl _, fun k hk => by cases hk⟩
  | op _ hg _ ih =>
    obtain ⟨h1, h2⟩ := hg.nm_le
    refine ⟨by omega, fun k hk n b hf => ?_⟩
    rcases List.mem_cons.1 hk with rfl | hk
    · obtain ⟨rfl, h3⟩ := h2 n b hf
      omega
    · have := ih.2 k hk n b hf
      omega

/-- An entry in the midst. -/
theorem tr_split : ∀ {T2 : List En} {k : En} {T1 : List En} {nm : Nat} {e : Env} {st : St}, Tr call nm0 e0 st0 (T2 ++ k :: T1) nm e st →
    ∃ nm1 nm2, Tr call nm0 e0 st0 T1 nm1 k.e k.st ∧ Good call nm1 k.g.o k.e k.st k.v k.f nm2 ∧ nm2 ≤ nm ∧ (∀ q ∈ T2, ∀ n b, q.f = .new n b → nm2 ≤ n ∧ n < nm) ∧
      (∀ j ∈ k.g.res, ∃ o, gfind (k.g :: T1.map En.g) j = some o ∧ ReF o (eput k.e k.g.o.dst k.v) (k.f.ap k.st))
  | [], k, T1, nm, e, st, h => by
    cases h with
    | op ht hg hr => exact ⟨_, _, ht, hg, Nat.le_refl _, (fun q hq => by cases hq), hr⟩
  | q :: T2, k, T1, nm, e, st, h => by
    cases h with
    | op ht hg hr =>
      obtain ⟨nm1, nm2, a, b, c, d, f⟩ := tr_split ht
      obtain ⟨h1, h2⟩ := hg.nm_le
      refine ⟨nm1, nm2, a, b, by omega, fun q' hq n bb hf => ?_, f⟩
      rcases List.mem_cons.1 hq with rfl | hq
      · obtain ⟨rfl, h3⟩ := h2 n bb hf
        omega
      · have := d q' hq n bb hf
        omega

theorem eget_eput (e : Env) (d : Option Nat) (v : AV) (t : Nat) : eget (eput e d v) t = if d = some t then v else eget e t := by
  cases d with
  | none => simp [eput]
  | some m =>
    simp only [eput, eset, eget, Option.some.injEq]

theorem ES_agree {S S' : Nat → Bool} {t : Nat} : ∀ {T : List En}, (∀ k ∈ T, S k.g.i = S' k.g.i ∨ k.g.o.dst ≠ some t) → eget (ES S e0 T) t = eget (ES S' e0 T) t
  | [], _ => rfl
  | k :: T, h => by
    have ih := ES_agree (T := T) (fun q hq => h q (List.mem_cons_of_mem _ hq))
    simp only [ES]
    rcases h k List.mem_cons_self with hk | hk
    · rw [hk]
      split
      · rw [eget_eput, eget_eput, ih]
      · exact ih
    · split <;> split <;> simp only [eget_eput, if_neg hk, ih]

theorem HS_agree {S S' : Nat → Bool} : ∀ {T : List En}, (∀ k ∈ T, S k.g.i = S' k.g.i ∨ k.f = .non) → HS S st0 T = HS S' st0 T
  | [], _ => rfl
  | k :: T, h => by
    have ih := HS_agree (T := T) (fun q hq => h q (List.mem_cons_of_mem _ hq))
    simp only [HS]
    rcases h k List.mem_cons_self with hk | hk
    · rw [hk, ih]
    · rw [hk, ih]
      split <;> split <;> rfl

theorem ES_skip {S : Nat → Bool} {t : Nat} {R : List En} : ∀ {T2 : List En}, (∀ k ∈ T2, S k.g.i = true → k.g.o.dst ≠ some t) → eget (ES S e0 (T2 ++ R)) t = eget (ES S e0 R) t
  | [], _ => rfl
  | k :: T, h => by
    have ih := ES_skip (R := R) (T2 := T) (fun q hq => h q (List.mem_cons_of_mem _ hq))
    simp only [List.cons_append, ES]
    split
    · rename_i hs
      rw [eget_eput, if_neg (h k List.mem_cons_self hs), ih]
    · exact ih

theorem HS_push {S : Nat → Bool} {R : List En} : ∀ {T2 : List En}, (∀ k ∈ T2, S k.g.i = true → ∀ s, k.f ≠ .post s) → HS S st0 (T2 ++ R) = ⟨news S T2 ++ (HS S st0 R).h, (HS S st0 R).nx⟩
  | [], _ => rfl
  | k :: T, h => by
    have ih := HS_push (R := R) (T2 := T) (fun q hq => h q (List.mem_cons_of_mem _ hq))
    simp only [List.cons_append, HS, news]
    split
    · rename_i hs
      have := h k List.mem_cons_self hs
      cases hf : k.f with
      | non => simp only [Eff.ap, ih]
      | new n b => simp only [Eff.ap, ih, List.cons_append]
      | post s => exact absurd hf (this s)
    · exact ih

theorem news_agree {S S' : Nat → Bool} : ∀ {T : List En}, (∀ k ∈ T, S k.g.i = S' k.g.i) → news S T = news S' T
  | [], _ => rfl
  | k :: T, h => by
    simp only [news]
    rw [h k List.mem_cons_self, news_agree (fun q hq => h q (List.mem_cons_of_mem _ hq))]

theorem news_mem {S : Nat → Bool} {n : Nat} {b : AObj} : ∀ {T : List En}, hget (news S T) n = some b → ∃ k ∈ T, S k.g.i = true ∧ k.f = .new n b
  | [], h => by cases h
  | k :: T, h => by
    simp only [news] at h
    split at h
    · rename_i hs
      split at h
      · rename_i m c hf
        simp only [hget] at h
        split at h
        · rename_i e; subst e; cases h
          exact ⟨k, List.mem_cons_self, hs, hf⟩
        · obtain ⟨q, hq, h1, h2⟩ := news_mem h
          exact ⟨q, List.mem_cons_of_mem _ hq, h1, h2⟩
      · obtain ⟨q, hq, h1, h2⟩ := news_mem h
        exact ⟨q, List.mem_cons_of_mem _ hq, h1, h2⟩
    · obtain ⟨q, hq, h1, h2⟩ := news_mem h
      exact ⟨q, List.mem_cons_of_mem _ hq, h1, h2⟩

theorem hget_append : ∀ {a b : Heap} {n : Nat}, hget (a ++ b) n = (hget a n).or (hget b n)
  | [], b, n => rfl
  | (m, o) :: a, b, n => by
    simp only [List.cons_append, hget]
    split
    · rfl
    · exact hget_append

theorem ObjR.named {w : World} {n : Nat} {o : AObj} (h : ObjR D X N w n o) : ∃ a, N.ρ n = some a := by
  cases o with
  | cells ty l cs => obtain ⟨b, us, fz, h1, _⟩ := h; exact ⟨_, h1⟩
  | buf ty es cs => obtain ⟨b, us, fz, h1, _⟩ := h; exact ⟨_, h1⟩
  | ro cs => obtain ⟨a, h1, _⟩ := h; exact ⟨_, h1⟩
  | map es => obtain ⟨b, mes, clk, h1, _⟩ := h; exact ⟨_, h1⟩
  | loop st env ps assign body => obtain ⟨b, l, S, h1, _⟩ := h; exact ⟨_, h1⟩

theorem NO_own {ev : AO → AV} {n : Nat} {p : NO} {v : AV} {b : AObj} (h : NO.run ev n p = some (v, b)) : b.own = true := by
  cases p <;> simp only [NO.run] at h
  · cases h; rfl
  · split at h <;> cases h; rfl
  · split at h <;> cases h; rfl
  · split at h
    · split at h <;> cases h; rfl
    · cases h
  · cases h; rfl
  · split at h <;> cases h; rfl

/-- Blocks that a step did not know of are there behind it as before. -/
theorem readd {Y h h' : Heap} {w w' : World} (hr : HR D X N (Y ++ h) w) (hr' : HR D X N' h' w') (g : Gd N h w N' h' w') (hown : ∀ n o, hget Y n = some o → o.own = true)
    (hY : ∀ n o, hget Y n = some o → hget h n = none) :
    HR D X N' (Y ++ h') w' ∧ Gd N (Y ++ h) w N' (Y ++ h') w' ∧ ∀ n o, hget Y n = some o → hget h' n = none := by
  have inY : ∀ n o, hget Y n = some o → hget (Y ++ h) n = some o := fun n o ho => by rw [hget_append, ho]; rfl
  have inh : ∀ n o, hget h n = some o → hget (Y ++ h) n = some o := fun n o ho => by
    rw [hget_append]
    cases hy : hget Y n with
    | none => exact ho
    | some q => rw [hY n q hy] at ho; cases ho
  have apart : ∀ n o a m p c, hget Y n = some o → N.ρ n = some a → hget h m = some p → N.ρ m = some c → a.block ≠ c.block := by
    intro n o a m p c h1 h2 h3 h4 e
    have := hr.sep n m o p a c (inY n o h1) (inh m p h3) (hown n o h1) h2 h4 e
    subst this
    rw [hY n o h1] at h3
    cases h3
  have key : ∀ n o a m p c, hget Y n = some o → N.ρ n = some a → hget h' m = some p → N'.ρ m = some c → a.block ≠ c.block := by
    intro n o a m p c h1 h2 h3 h4 e
    rcases g.has m p c h3 h4 with ⟨q, r, d, k1, k2, k3, _⟩ | hge
    · exact apart n o a q r d h1 h2 k1 k2 (e.trans k3.symm)
    · have := (hr.objs n o (inY n o h1)).lt h2
      omega
  have named : ∀ n o, hget Y n = some o → ∃ a, N.ρ n = some a ∧ N'.ρ n = some a := fun n o ho => by
    obtain ⟨a, ha⟩ := (hr.objs n o (inY n o ho)).named
    exact ⟨a, ha, (g.le n a ha).1⟩
  have third : ∀ n o, hget Y n = some o → hget h' n = none := by
    intro n o ho
    obtain ⟨a, ha, ha'⟩ := named n o ho
    cases hq : hget h' n with
    | none => rfl
    | some p => exact absurd rfl (key n o a n p a ho ha hq ha')
  have cases' : ∀ n o, hget (Y ++ h') n = some o → hget Y n = some o ∨ hget h' n = some o := by
    intro n o ho
    rw [hget_append] at ho
    cases hy : hget Y n with
    | none => rw [hy] at ho; exact .inr ho
    | some q => rw [hy] at ho; exact .inl ho
  refine ⟨⟨fun n o ho => ?_, fun n m o p a c ho hp hpo ha hc hac => ?_⟩, ⟨g.le, g.size, g.tape, g.os, g.output, fun b hb hn => g.frame b hb (fun hw => hn ?_), fun n o a ho ha => ?_⟩, third⟩
  · rcases cases' n o ho with ho | ho
    · refine (hr.objs n o (inY n o ho)).keep g.le g.size (fun a ha => g.frame _ ((hr.objs n o (inY n o ho)).lt ha) ?_)
      rintro ⟨m, p, c, h1, h2, h3, h4⟩
      exact apart n o a m p c ho ha h1 h3 h4.symm
    · exact hr'.objs n o ho
  · rcases cases' n o ho with ho | ho
    · obtain ⟨a', ha1, ha2⟩ := named n o ho
      rw [ha] at ha2; cases ha2
      rcases cases' m p hp with hp | hp
      · obtain ⟨c', hc1, hc2⟩ := named m p hp
        rw [hc] at hc2; cases hc2
        exact hr.sep n m o p a c (inY n o ho) (inY m p hp) hpo ha1 hc1 hac
      · exact absurd hac (key n o a m p c ho ha1 hp hc)
    · rcases cases' m p hp with hp | hp
      · obtain ⟨c', hc1, hc2⟩ := named m p hp
        rw [hc] at hc2; cases hc2
        exact absurd hac.symm (key m p c n o a hp hc1 ho ha)
      · exact hr'.sep n m o p a c ho hp hpo ha hc hac
  · obtain ⟨m, p, c, h1, h2, h3, h4⟩ := hw
    exact ⟨m, p, c, inh m p h1, h2, h3, h4⟩
  · rcases cases' n o ho with ho | ho
    · obtain ⟨a', ha1, ha2⟩ := named n o ho
      rw [ha] at ha2; cases ha2
      exact .inl ⟨n, o, a, inY n o ho, ha1, rfl, id⟩
    · rcases g.has n o a ho ha with ⟨m, p, c, k1, k2, k3, k4⟩ | hge
      · exact .inl ⟨m, p, c, inh m p k1, k2, k3, k4⟩
      · exact .inr hge

end Go.Ev

/- Regions whose order is drawn: one operation, whichever is drawn. -/
namespace Go.Ev
open Go

variable {X : Cx} {N N' N'' : Nu} {D : ChkD}

theorem hmem_iff {n : Nat} : ∀ {l : List Nat}, hmem n l = true ↔ n ∈ l
  | [] => by simp [hmem]
  | m :: l => by
    simp only [hmem, List.mem_cons]
    by_cases h : m = n
    · simp [h]
    · rw [if_neg h, hmem_iff]
      constructor
      · exact .inr
      · rintro (rfl | h')
        · exact absurd rfl h
        · exact h'

theorem dstIn_false {d : Option Nat} {l : List Nat} (h : (!dstIn d l) = true) : ∀ t ∈ l, d ≠ some t := by
  intro t ht e
  subst e
  simp only [dstIn, Bool.not_eq_true'] at h
  rw [hmem_iff.2 ht] at h
  cases h

theorem dstEq_false {a b : Option Nat} (h : (!dstEq a b) = true) : ∀ t, a = some t → b ≠ some t := by
  intro t ha hb
  subst ha hb
  simp [dstEq] at h

structure Apart (p g : MI) : Prop where
  a : ∀ t ∈ g.reads, p.dst ≠ some t
  b : ∀ t ∈ p.reads, g.dst ≠ some t
  c : ∀ t, p.dst = some t → g.dst ≠ some t

structure Pair (A : List (List Nat)) (p g : G) : Prop where
  ne : p.i ≠ g.i
  lin : ltA A g.i p.i ≠ true
  or : ltA A p.i g.i = true ∨ (Apart p.o g.o ∧ (p.o.isN = true → g.o.isR = false ∧ g.o.isW = false) ∧ (p.o.isW = true → g.o.isR = false ∧ g.o.isW = false) ∧
    (p.o.isR = true → g.o.isW = true → p.i ∈ g.res))

theorem pairOK_spec {A : List (List Nat)} {p g : G} (h : pairOK A p g = true) : Pair A p g := by
  simp only [pairOK, bool_and, decide_eq_true_eq, Bool.or_eq_true] at h
  obtain ⟨h1, h2, h3⟩ := h
  refine ⟨h1, by simpa using h2, ?_⟩
  rcases h3 with h3 | ⟨h3, h4, h5, h6⟩
  · exact .inl h3
  · right
    simp only [apartE, bool_and] at h3
    refine ⟨⟨dstIn_false h3.1, dstIn_false h3.2.1, dstEq_false h3.2.2⟩, fun hn => ?_, fun hw => ?_, fun hr hw => ?_⟩
    · simp only [hn, Bool.true_and, Bool.not_or, bool_and, Bool.not_eq_true'] at h4
      exact h4
    · simp only [hw, Bool.true_and, Bool.not_or, bool_and, Bool.not_eq_true'] at h5
      exact h5
    · rcases h6 with h6 | h6
      · simp [hr, hw] at h6
      · exact hmem_iff.1 h6

theorem aoT_mem {n : Nat} : ∀ {l : List AO}, AO.t n ∈ l → n ∈ aoT l
  | .t m :: l, h => by
    simp only [aoT, List.mem_cons, AO.t.injEq] at h ⊢
    rcases h with h | h
    · exact .inl h
    · exact .inr (aoT_mem h)
  | .k v :: l, h => by
    simp only [aoT]
    rcases List.mem_cons.1 h with h | h
    · cases h
    · exact aoT_mem h

theorem reads_agree {o : MI} {e1 e2 : Env} (h : ∀ t ∈ o.reads, eget e1 t = eget e2 t) : (∀ a ∈ o.op.aos, AO.ev e1 a = AO.ev e2 a) ∧ wanted e1 o.guard = wanted e2 o.guard := by
  unfold MI.reads at h
  cases hg : o.guard with
  | none =>
    rw [hg] at h
    refine ⟨fun a ha => ?_, rfl⟩
    cases a with
    | t n => exact h n (aoT_mem ha)
    | k v => rfl
  | some p =>
    obtain ⟨t, b⟩ := p
    rw [hg] at h
    refine ⟨fun a ha => ?_, ?_⟩
    · cases a with
      | t n => exact h n (List.mem_cons_of_mem _ (aoT_mem ha))
      | k v => rfl
    · simp only [wanted, h t List.mem_cons_self]

theorem gfind_split {k : En} {T1 : List En} : ∀ {T2 : List En}, (∀ q ∈ T2, q.g.i ≠ k.g.i) → gfind ((T2 ++ k :: T1).map En.g) k.g.i = some k.g.o
  | [], _ => by simp [gfind]
  | q :: T2, h => by
    simp only [List.cons_append, List.map_cons, gfind]
    rw [if_neg (h q List.mem_cons_self)]
    exact gfind_split (fun q hq => h q (List.mem_cons_of_mem _ hq))

theorem reOK_split {k : En} {T1 : List En} {d : Option Nat} {rs : List Nat} : ∀ {T2 : List En}, (∀ q ∈ T2, q.g.i ≠ k.g.i) → reOK k.g.i d rs ((T2 ++ k :: T1).map En.g) = true →
    (∀ q ∈ T2, (∀ t ∈ rs, q.g.o.dst ≠ some t) ∧ ∀ t, d = some t → q.g.o.dst ≠ some t) ∧ ∀ t ∈ rs, d ≠ some t
  | [], _, h => by
    simp only [List.nil_append, List.map_cons, reOK, if_true] at h
    exact ⟨(fun q hq => nomatch hq), dstIn_false h⟩
  | q :: T2, hq, h => by
    simp only [List.cons_append, List.map_cons, reOK] at h
    rw [if_neg (hq q List.mem_cons_self)] at h
    simp only [bool_and] at h
    obtain ⟨h1, h2⟩ := reOK_split (fun q hq' => hq q (List.mem_cons_of_mem _ hq')) h.2.2
    refine ⟨fun r hr => ?_, h2⟩
    rcases List.mem_cons.1 hr with rfl | hr
    · exact ⟨dstIn_false h.1, fun t ht e => dstEq_false h.2.1 t e ht⟩
    · exact h1 r hr

theorem pw_split {A : List (List Nat)} {k : En} {T1 : List En} : ∀ {T2 : List En}, pwOK A ((T2 ++ k :: T1).map En.g) = true →
    (∀ p ∈ T1, Pair A p.g k.g) ∧ (∀ q ∈ T2, Pair A k.g q.g) ∧ ∀ j ∈ k.g.res, ∃ o, gfind ((k :: T1).map En.g) j = some o ∧ reOK j o.dst o.reads ((k :: T1).map En.g) = true
  | [], h => by
    simp only [List.nil_append, List.map_cons, pwOK, bool_and, List.all_eq_true] at h
    refine ⟨fun p hp => pairOK_spec (h.1 p.g (List.mem_map_of_mem hp)), (fun q hq => by cases hq), fun j hj => ?_⟩
    have := h.2.1 j hj
    split at this
    · rename_i o ho
      exact ⟨o, ho, this⟩
    · cases this
  | q :: T2, h => by
    simp only [List.cons_append, List.map_cons, pwOK, bool_and, List.all_eq_true] at h
    obtain ⟨h1, h2, h3⟩ := pw_split h.2.2
    refine ⟨h1, fun r hr => ?_, h3⟩
    rcases List.mem_cons.1 hr with rfl | hr
    · exact pairOK_spec (h.1 k.g (List.mem_map_of_mem (by simp)))
    · exact h2 r hr

def setS (S : Nat → Bool) (j : Nat) : Nat → Bool := fun i => if i = j then true else S i

structure Inv (D : ChkD) (X : Cx) (nm0 : Nat) (e0 : Env) (st0 : St) (A : List (List Nat)) (T : List En) (N0 : Nu) (w0 : World) (S : Nat → Bool) (N : Nu) (t : Array Value) (w : World) : Prop where
  env : EnvR X N (ES S e0 T) t
  sr : SR D X N (HS S st0 T) w
  gd : Gd N0 st0.h w0 N (HS S st0 T).h w
  nx : st0.nx ≤ (HS S st0 T).nx
  old : ∀ n, n < nm0 → N.ρ n = N0.ρ n
  un : ∀ k ∈ T, S k.g.i = false → ∀ n b, k.f = .new n b → N.ρ n = none
  x4 : ∀ T2 R, T = T2 ++ R → (∀ k ∈ T2, S k.g.i = true → ∀ s, k.f ≠ .post s) → ∀ k ∈ T2, S k.g.i = true → ∀ n b, k.f = .new n b → hget (HS S st0 R).h n = none
  cl : ∀ k, S k = true → ∀ a, ltA A a k = true → S a = true

variable {call : CallF} {nm0 nm : Nat} {e0 e : Env} {st0 st : St} {A : List (List Nat)} {T : List En} {N0 : Nu} {w0 w : World} {S : Nat → Bool} {t : Array Value}

theorem Good.kind {nm nm' : Nat} {o : MI} {e : Env} {st : St} {v : AV} {f : Eff} (h : Good call nm o e st v f nm') :
    (∀ s, f = .post s → o.isW = true) ∧ (∀ n b, f = .new n b → o.isN = true) ∧ (f ≠ .non → o.isN = true ∨ o.isW = true) := by
  cases h with
  | skip h => exact ⟨(fun s h => nomatch h), (fun n b h => nomatch h), fun h => absurd rfl h⟩
  | p h1 h2 h3 => exact ⟨(fun s h => nomatch h), (fun n b h => nomatch h), fun h => absurd rfl h⟩
  | r h1 h2 h3 => exact ⟨(fun s h => nomatch h), (fun n b h => nomatch h), fun h => absurd rfl h⟩
  | n h1 h2 h3 => exact ⟨(fun s h => nomatch h), (fun n b h => by simp [MI.isN, h2]), fun h => .inl (by simp [MI.isN, h2])⟩
  | w h1 h2 h3 => exact ⟨(fun s h => by simp [MI.isW, h2]), (fun n b h => nomatch h), fun h => .inr (by simp [MI.isW, h2])⟩

/-- The list is cut in two places. -/
theorem cut_two {T2 T1 Ta R : List En} {k : En} (h : T2 ++ k :: T1 = Ta ++ R) : (∃ Tm, Ta = T2 ++ k :: Tm ∧ T1 = Tm ++ R) ∨ ∃ Tm, R = Tm ++ k :: T1 ∧ T2 = Ta ++ Tm := by
  rcases List.append_eq_append_iff.1 h with ⟨as, h1, h2⟩ | ⟨bs, h1, h2⟩
  · cases as with
    | nil => exact .inr ⟨[], by simpa using h2.symm, by simpa using h1.symm⟩
    | cons a as =>
      simp only [List.cons_append, List.cons.injEq] at h2
      obtain ⟨rfl, h2⟩ := h2
      exact .inl ⟨as, h1, h2⟩
  · exact .inr ⟨bs, h2, h1⟩

end Go.Ev

/- Regions whose order is drawn: what holds of the operations made so far is kept by the next. -/
namespace Go.Ev
open Go

variable {X : Cx} {N N' N'' : Nu} {D : ChkD}
variable {call : CallF} {nm0 nm : Nat} {e0 e : Env} {st0 st : St} {A : List (List Nat)} {T : List En} {N0 : Nu} {w0 w : World} {S : Nat → Bool} {t : Array Value}

theorem tr_kind (h : Tr call nm0 e0 st0 T nm e st) : ∀ k ∈ T, (∀ s, k.f = .post s → k.g.o.isW = true) ∧ (∀ n b, k.f = .new n b → k.g.o.isN = true) ∧ (k.f ≠ .non → k.g.o.isN = true ∨ k.g.o.isW = true) := by
  induction h with
  | nil => intro k hk; cases hk
  | op _ hg _ ih =>
    intro k hk
    rcases List.mem_cons.1 hk with rfl | hk
    · exact hg.kind
    · exact ih k hk

theorem tr_own (h : Tr call nm0 e0 st0 T nm e st) : ∀ k ∈ T, ∀ n b, k.f = .new n b → b.own = true := by
  induction h with
  | nil => intro k hk; cases hk
  | op _ hg _ ih =>
    intro k hk n b hf
    rcases List.mem_cons.1 hk with rfl | hk
    · cases hg with
      | n h1 h2 h3 => cases hf; exact NO_own h3
      | _ => cases hf
    · exact ih k hk n b hf

theorem news_get {n : Nat} {b : AObj} {k : En} (hs : S k.g.i = true) (hf : k.f = .new n b) {T : List En} (hk : k ∈ T) : ∃ c, hget (news S T) n = some c := by
  induction T with
  | nil => cases hk
  | cons q T ih =>
    simp only [news]
    rcases List.mem_cons.1 hk with rfl | hk
    · rw [if_pos hs, hf]
      exact ⟨b, by simp [hget]⟩
    · obtain ⟨c, hc⟩ := ih hk
      by_cases hq : S q.g.i = true
      · rw [if_pos hq]
        cases hqf : q.f with
        | non => exact ⟨c, hc⟩
        | new m b' =>
          simp only [hget]
          by_cases hm : m = n
          · rw [if_pos hm]; exact ⟨_, rfl⟩
          · rw [if_neg hm]; exact ⟨c, hc⟩
        | post s => exact ⟨c, hc⟩
      · rw [if_neg hq]
        exact ⟨c, hc⟩

theorem setS_ne {i j : Nat} (h : i ≠ j) : setS S j i = S i := by simp [setS, h]
theorem setS_eq {j : Nat} : setS S j j = true := by simp [setS]

section
variable {k : En} {T2 T1 : List En}

theorem x4_step (hT : Tr call nm0 e0 st0 (T2 ++ k :: T1) nm e st) (inv : Inv D X nm0 e0 st0 A (T2 ++ k :: T1) N0 w0 S N t w) (hnS : S k.g.i = false)
    (ne1 : ∀ p ∈ T1, p.g.i ≠ k.g.i) (ne2 : ∀ q ∈ T2, q.g.i ≠ k.g.i)
    (hnew : ∀ n b, k.f = .new n b → ∀ q ∈ T2, S q.g.i = true → ∀ s, q.f ≠ .post s)
    (hpost : ∀ s, k.f = .post s → (∀ q ∈ T2, S q.g.i = true → ∀ s', q.f ≠ .post s') ∧ ∀ n o, hget (news S T2) n = some o → hget s.h n = none) :
    ∀ Ta R, T2 ++ k :: T1 = Ta ++ R → (∀ q ∈ Ta, setS S k.g.i q.g.i = true → ∀ s, q.f ≠ .post s) → ∀ q ∈ Ta, setS S k.g.i q.g.i = true → ∀ n b, q.f = .new n b →
      hget (HS (setS S k.g.i) st0 R).h n = none := by
  intro Ta R hsplit hnp q hq hS' n b hf
  have hmono : ∀ i, S i = true → setS S k.g.i i = true := fun i hi => by simp only [setS]; split <;> first | rfl | exact hi
  have hnpS : ∀ q ∈ Ta, S q.g.i = true → ∀ s, q.f ≠ .post s := fun q hq hs => hnp q hq (hmono _ hs)
  rcases cut_two hsplit with ⟨Tm, hTa, hT1⟩ | ⟨Tm, hR, hT2⟩
  · have hR : HS (setS S k.g.i) st0 R = HS S st0 R := HS_agree (fun p hp => .inl (setS_ne (ne1 p (by rw [hT1]; exact List.mem_append_right _ hp))))
    rw [hR]
    by_cases he : q.g.i = k.g.i
    · have hqk : q = k := by
        rw [hTa] at hq
        rcases List.mem_append.1 hq with h | h
        · exact absurd he (ne2 q h)
        · rcases List.mem_cons.1 h with h | h
          · exact h
          · exact absurd he (ne1 q (by rw [hT1]; exact List.mem_append_left _ h))
      subst hqk
      cases hg : hget (HS S st0 R).h n with
      | none => rfl
      | some ob =>
        exfalso
        have hp := HS_push (st0 := st0) (R := R) hnpS
        rw [← hsplit] at hp
        have hs := inv.sr.hr
        rw [hp] at hs
        have : ∃ ob', hget (news S Ta ++ (HS S st0 R).h) n = some ob' := by
          rw [hget_append]
          cases hget (news S Ta) n with
          | none => exact ⟨ob, hg⟩
          | some c => exact ⟨c, rfl⟩
        obtain ⟨ob', ho'⟩ := this
        obtain ⟨a, ha⟩ := (hs.objs n ob' ho').named
        rw [inv.un q (by simp) hnS n b hf] at ha
        cases ha
    · exact inv.x4 Ta R hsplit hnpS q hq (by rw [setS_ne he] at hS'; exact hS') n b hf
  · have hq2 : q ∈ T2 := by rw [hT2]; exact List.mem_append_left _ hq
    have hSq : S q.g.i = true := by rw [setS_ne (ne2 q hq2)] at hS'; exact hS'
    have h0 := inv.x4 Ta R hsplit hnpS q hq hSq n b hf
    have hT1S : HS (setS S k.g.i) st0 T1 = HS S st0 T1 := HS_agree (fun p hp => .inl (setS_ne (ne1 p hp)))
    have hTm : news (setS S k.g.i) Tm = news S Tm := news_agree (fun p hp => setS_ne (ne2 p (by rw [hT2]; exact List.mem_append_right _ hp)))
    have push : (∀ q ∈ T2, S q.g.i = true → ∀ s, q.f ≠ .post s) → (∀ q ∈ Tm, S q.g.i = true → ∀ s, q.f ≠ .post s) ∧ ∀ q ∈ Tm, setS S k.g.i q.g.i = true → ∀ s, q.f ≠ .post s := by
      intro h
      have hm : ∀ q ∈ Tm, q ∈ T2 := fun q hq => by rw [hT2]; exact List.mem_append_right _ hq
      exact ⟨fun q hq => h q (hm q hq), fun q hq hs => h q (hm q hq) (by rw [setS_ne (ne2 q (hm q hq))] at hs; exact hs)⟩
    rw [hR] at h0 ⊢
    cases hkf : k.f with
    | non =>
      have : HS (setS S k.g.i) st0 (Tm ++ k :: T1) = HS S st0 (Tm ++ k :: T1) := HS_agree (fun p hp => by
        rcases List.mem_append.1 hp with h | h
        · exact .inl (setS_ne (ne2 p (by rw [hT2]; exact List.mem_append_right _ h)))
        · rcases List.mem_cons.1 h with rfl | h
          · exact .inr hkf
          · exact .inl (setS_ne (ne1 p h)))
      rw [this]
      exact h0
    | new n1 b1 =>
      obtain ⟨p1, p2⟩ := push (hnew n1 b1 hkf)
      rw [HS_push p1] at h0
      rw [HS_push p2, hTm]
      simp only [HS, setS_eq, if_true, hnS, Bool.false_eq_true, if_false, hkf, Eff.ap, hT1S] at h0 ⊢
      obtain ⟨nm1, nm2, _, hgood, _, hlater, _⟩ := tr_split hT
      have h1 := hgood.nm_le.2 n1 b1 hkf
      have h2 := hlater q hq2 n b hf
      rw [hget_append] at h0 ⊢
      simp only [hget]
      rw [if_neg (by omega)]
      exact h0
    | post s =>
      obtain ⟨h1, h2⟩ := hpost s hkf
      obtain ⟨p1, p2⟩ := push h1
      rw [HS_push p1] at h0
      rw [HS_push p2, hTm]
      simp only [HS, setS_eq, if_true, hkf, Eff.ap]
      rw [hget_append] at h0 ⊢
      obtain ⟨c, hc⟩ := news_get hSq hf hq2
      rw [h2 n c hc]
      cases hm : hget (news S Tm) n with
      | none => rfl
      | some z => rw [hm] at h0; cases h0

theorem Inv.step {Sz : Nat} {ops : Array Oper} (hcall : CallOK D X call) (hT : Tr call nm0 e0 st0 (T2 ++ k :: T1) nm e st) (hnm : nm ≤ st0.nx) (hpw : pwOK A ((T2 ++ k :: T1).map En.g) = true)
    (inv : Inv D X nm0 e0 st0 A (T2 ++ k :: T1) N0 w0 S N t w) (hnS : S k.g.i = false) (hrd : ∀ a, ltA A a k.g.i = true → S a = true) {o : Oper} (ho : ops[k.g.i]? = some o) (hc : chkI X Sz ops k.g.o o = true) (hsz : Sz ≤ t.size)
    (b : Frame) (d : List Deferred) (rest : List Nat) (kk : List Item) (cs : List Frame) :
    ∃ N' t' w', Inv D X nm0 e0 st0 A (T2 ++ k :: T1) N0 w0 (setS S k.g.i) N' t' w' ∧ t'.size = t.size ∧
      Steps X.P (lone (Fr b t d (.inRegion ops (k.g.i :: rest) :: kk)) cs w) (lone (Fr b t' d (.inRegion ops rest :: kk)) cs w') := by
  obtain ⟨nm1, nm2, hT1, hgood, hnm2, hlater, hre⟩ := tr_split hT
  obtain ⟨hp1, hp2, hpr⟩ := pw_split hpw
  obtain ⟨full1, full2⟩ := tr_full hT1
  have kinds := tr_kind hT
  have names := tr_names hT
  have names1 := tr_names hT1
  have ne1 : ∀ p ∈ T1, p.g.i ≠ k.g.i := fun p hp => (hp1 p hp).ne
  have ne2 : ∀ q ∈ T2, q.g.i ≠ k.g.i := fun q hq => (hp2 q hq).ne.symm
  have earlier : ∀ p ∈ T1, S p.g.i = false → Apart p.g.o k.g.o ∧ (p.g.o.isN = true → k.g.o.isR = false ∧ k.g.o.isW = false) ∧ (p.g.o.isW = true → k.g.o.isR = false ∧ k.g.o.isW = false) := by
    intro p hp hs
    rcases (hp1 p hp).or with h | ⟨h1, h2, h3, _⟩
    · rw [hrd _ h] at hs; cases hs
    · exact ⟨h1, h2, h3⟩
  have later : ∀ q ∈ T2, S q.g.i = true → Apart k.g.o q.g.o ∧ (k.g.o.isN = true → q.g.o.isR = false ∧ q.g.o.isW = false) ∧ (k.g.o.isW = true → q.g.o.isR = false ∧ q.g.o.isW = false) ∧
      (k.g.o.isR = true → q.g.o.isW = true → k.g.i ∈ q.g.res) := by
    intro q hq hs
    rcases (hp2 q hq).or with h | h
    · rw [inv.cl _ hs _ h] at hnS; cases hnS
    · exact h
  have agree : ∀ x ∈ k.g.o.reads, eget (ES S e0 (T2 ++ k :: T1)) x = eget k.e x := by
    intro x hx
    rw [ES_skip (fun q hq hs => (later q hq hs).1.b x hx)]
    simp only [ES, hnS, Bool.false_eq_true, if_false]
    refine (ES_agree (S' := fun _ => true) (fun p hp => ?_)).trans (by rw [full1])
    cases hs : S p.g.i with
    | true => exact .inl rfl
    | false => exact .inr ((earlier p hp hs).1.a x hx)
  obtain ⟨ag1, ag2⟩ := reads_agree agree
  have egeteq : ∀ x, eget (ES (setS S k.g.i) e0 (T2 ++ k :: T1)) x = eget (eput (ES S e0 (T2 ++ k :: T1)) k.g.o.dst k.v) x := by
    intro x
    rw [eget_eput]
    by_cases hx : k.g.o.dst = some x
    · rw [if_pos hx, ES_skip (fun q hq hs => (later q hq (by rw [setS_ne (ne2 q hq)] at hs; exact hs)).1.c x hx)]
      simp only [ES, setS_eq, if_true]
      rw [eget_eput, if_pos hx]
    · rw [if_neg hx]
      refine ES_agree (fun q hq => ?_)
      rcases List.mem_append.1 hq with h | h
      · exact .inl (setS_ne (ne2 q h))
      · rcases List.mem_cons.1 h with rfl | h
        · exact .inr hx
        · exact .inl (setS_ne (ne1 q h))
  have cl' : ∀ i, setS S k.g.i i = true → ∀ a, ltA A a i = true → setS S k.g.i a = true := by
    intro i hi a ha
    have : S a = true := by
      by_cases e : i = k.g.i
      · subst e; exact hrd a ha
      · rw [setS_ne e] at hi; exact inv.cl i hi a ha
    simp only [setS]; split <;> first | rfl | exact this
  have unS : ∀ q ∈ T2 ++ k :: T1, setS S k.g.i q.g.i = false → S q.g.i = false ∧ q.g.i ≠ k.g.i := by
    intro q _ hs
    have : q.g.i ≠ k.g.i := by
      intro e
      rw [e, setS_eq] at hs
      cases hs
    rw [setS_ne this] at hs
    exact ⟨hs, this⟩
  have hc' := hc
  simp only [chkI, bool_and, beq_iff_eq] at hc'
  obtain ⟨hdst, hlt, hg, hm⟩ := hc'
  -- an operation that leaves the heap alone
  have quiet : k.f = .non → k.g.o.run call (ES S e0 (T2 ++ k :: T1)) (HS S st0 (T2 ++ k :: T1)) = some (eput (ES S e0 (T2 ++ k :: T1)) k.g.o.dst k.v, HS S st0 (T2 ++ k :: T1)) →
      ∃ N' t' w', Inv D X nm0 e0 st0 A (T2 ++ k :: T1) N0 w0 (setS S k.g.i) N' t' w' ∧ t'.size = t.size ∧
        Steps X.P (lone (Fr b t d (.inRegion ops (k.g.i :: rest) :: kk)) cs w) (lone (Fr b t' d (.inRegion ops rest :: kk)) cs w') := by
    intro hf hrun
    obtain ⟨N', t', w', a1, a2, a3, a4, a5, a6, a7⟩ := MI_sound hcall hrun hc ho inv.env hsz inv.sr b d rest kk cs
    have hHS : HS (setS S k.g.i) st0 (T2 ++ k :: T1) = HS S st0 (T2 ++ k :: T1) := HS_agree (fun q hq => by
      rcases List.mem_append.1 hq with h | h
      · exact .inl (setS_ne (ne2 q h))
      · rcases List.mem_cons.1 h with rfl | h
        · exact .inr hf
        · exact .inl (setS_ne (ne1 q h)))
    have hnx := inv.nx
    refine ⟨N', t', w', ⟨fun x => by rw [egeteq]; exact a1 x, by rw [hHS]; exact a3, by rw [hHS]; exact inv.gd.trans a4, by rw [hHS]; exact inv.nx, fun n hn => ?_, fun q hq hs n bb hf' => ?_, ?_, cl'⟩, a2, a7⟩
    · rw [a6 n (by omega)]; exact inv.old n hn
    · have := names.2 q hq n bb hf'
      rw [a6 n (by omega)]
      exact inv.un q hq (unS q hq hs).1 n bb hf'
    · exact x4_step hT inv hnS ne1 ne2 (fun n bb h => by rw [hf] at h; cases h) (fun s h => by rw [hf] at h; cases h)
  generalize hv : k.v = v at *
  generalize hf : k.f = f at *
  cases hgood with
  | skip hw =>
    refine quiet rfl ?_
    simp only [MI.run, ag2, hw]
  | p hw hop hrun =>
    refine quiet rfl ?_
    rw [hop] at ag1
    simp only [MI.run, ag2, hw, hop, MO.run]
    rw [PO.congr ag1, hrun]
  | @r p v hw hop hrun =>
    refine quiet rfl ?_
    rw [hop] at ag1
    have hisR : k.g.o.isR = true := by simp [MI.isR, hop]
    have hT1 : HS S st0 T1 = k.st := by
      refine (HS_agree (S' := fun _ => true) (fun q hq => ?_)).trans full2
      cases hs : S q.g.i with
      | true => exact .inl rfl
      | false =>
        right
        obtain ⟨_, h2, h3⟩ := earlier q hq hs
        by_cases hn : q.f = .non
        · exact hn
        · exfalso
          rcases (kinds q (by simp [hq])).2.2 hn with h | h
          · rw [(h2 h).1] at hisR; cases hisR
          · rw [(h3 h).1] at hisR; cases hisR
    have key : ∀ (Ta : List En) (R : List En), T2 ++ k :: T1 = Ta ++ R → (∀ q ∈ Ta, q ∈ T2) → (∀ q ∈ Ta, S q.g.i = true → ∀ s, q.f ≠ .post s) → RO.run (AO.ev (ES S e0 (T2 ++ k :: T1))) (HS S st0 R).h p = some v →
        RO.run (AO.ev (ES S e0 (T2 ++ k :: T1))) (HS S st0 (T2 ++ k :: T1)).h p = some v := by
      intro Ta R hs hin hnp hr
      have hp := HS_push (st0 := st0) (R := R) hnp
      rw [← hs] at hp
      rw [hp]
      refine RO.grow (fun n ob hob => ?_) hr
      rw [hget_append]
      cases hy : hget (news S Ta) n with
      | none => exact hob
      | some c =>
        obtain ⟨q, hq, h1, h2⟩ := news_mem hy
        rw [inv.x4 Ta R hs hnp q hq h1 n c h2] at hob
        cases hob
    have hread : RO.run (AO.ev (ES S e0 (T2 ++ k :: T1))) (HS S st0 (T2 ++ k :: T1)).h p = some v := by
      -- the last write that was made behind it
      have last : ∀ (Tz : List En), (∀ q ∈ Tz, S q.g.i = true → ∀ s, q.f ≠ .post s) ∨ ∃ Ta q Tb s, Tz = Ta ++ q :: Tb ∧ (∀ q ∈ Ta, S q.g.i = true → ∀ s, q.f ≠ .post s) ∧ S q.g.i = true ∧ q.f = .post s := by
        intro Tz
        induction Tz with
        | nil => exact .inl (fun q hq => nomatch hq)
        | cons q Tz ih =>
          by_cases hq : S q.g.i = true ∧ ∃ s, q.f = .post s
          · obtain ⟨h1, s, h2⟩ := hq
            exact .inr ⟨[], q, Tz, s, rfl, (fun r hr => nomatch hr), h1, h2⟩
          · have hq' : S q.g.i = true → ∀ s, q.f ≠ .post s := fun h1 s h2 => hq ⟨h1, s, h2⟩
            rcases ih with ih | ⟨Ta, r, Tb, s, h1, h2, h3, h4⟩
            · exact .inl (fun r hr => by rcases List.mem_cons.1 hr with rfl | hr; exact hq'; exact ih r hr)
            · refine .inr ⟨q :: Ta, r, Tb, s, by rw [h1]; rfl, fun z hz => ?_, h3, h4⟩
              rcases List.mem_cons.1 hz with rfl | hz
              · exact hq'
              · exact h2 z hz
      rcases last T2 with hnp | ⟨Ta, q, Tb, s, hT2, hnp, hSq, hqf⟩
      · refine key T2 (k :: T1) rfl (fun q hq => hq) hnp ?_
        simp only [HS, hnS, Bool.false_eq_true, if_false, hT1]
        rw [RO.congr ag1]
        exact hrun
      · have hqT2 : q ∈ T2 := by rw [hT2]; simp
        have hres := (later q hqT2 hSq).2.2.2 hisR ((kinds q (by simp [hqT2])).1 s hqf)
        have hTq : T2 ++ k :: T1 = Ta ++ q :: (Tb ++ k :: T1) := by rw [hT2]; simp
        refine key Ta (q :: (Tb ++ k :: T1)) hTq (fun z hz => by rw [hT2]; exact List.mem_append_left _ hz) hnp ?_
        simp only [HS, hSq, if_true, hqf, Eff.ap]
        rw [hTq] at hT hpw
        obtain ⟨_, _, hTr, _, _, _, hre'⟩ := tr_split hT
        obtain ⟨_, _, hpr'⟩ := pw_split hpw
        have neb : ∀ z ∈ q :: Tb, z.g.i ≠ k.g.i := fun z hz => ne2 z (by rw [hT2]; exact List.mem_append_right _ hz)
        have hgf := gfind_split (T1 := T1) neb
        obtain ⟨o1, ho1, hREF⟩ := hre' _ hres
        obtain ⟨o2, ho2, hREO⟩ := hpr' _ hres
        simp only [List.cons_append, List.map_cons] at hgf ho1 ho2 hREO
        rw [hgf] at ho1 ho2
        cases ho1; cases ho2
        obtain ⟨hro1, hro2⟩ := reOK_split (T2 := q :: Tb) (T1 := T1) neb (by simpa using hREO)
        -- the environment behind q
        have hfq : eput q.e q.g.o.dst q.v = ES (fun _ => true) e0 ((q :: Tb) ++ k :: T1) := by
          simp only [List.cons_append, ES, if_true]
          rw [(tr_full hTr).1]
        have henv : ∀ x, (∀ z ∈ q :: Tb, z.g.o.dst ≠ some x) → eget (eput q.e q.g.o.dst q.v) x = eget (eput k.e k.g.o.dst v) x := by
          intro x hx
          rw [hfq, ES_skip (fun z hz _ => hx z hz)]
          simp only [ES, if_true, full1, hv]
        have hreads : ∀ x ∈ k.g.o.reads, eget (eput q.e q.g.o.dst q.v) x = eget k.e x := by
          intro x hx
          rw [henv x (fun z hz => (hro1 z hz).1 x hx), eget_eput, if_neg (hro2 x hx)]
        obtain ⟨bg1, bg2⟩ := reads_agree hreads
        obtain ⟨p', d', hp', hd', hrr⟩ := hREF (by rw [bg2]; exact hw)
        rw [hop] at hp'
        cases hp'
        rw [henv d' (fun z hz => (hro1 z hz).2 d' hd'), eget_eput, if_pos hd', hqf] at hrr
        rw [hop] at bg1
        rw [RO.congr bg1] at hrr
        rw [RO.congr ag1]
        exact hrr
    simp only [MI.run, ag2, hw, hop, MO.run]
    rw [hread]
  | @n p v bb hw hop hrun =>
    rw [hop] at ag1 hm
    have hisN : k.g.o.isN = true := by simp [MI.isN, hop]
    have hnp : ∀ q ∈ T2, S q.g.i = true → ∀ s, q.f ≠ .post s := by
      intro q hq hs s hqf
      have := ((later q hq hs).2.1 hisN).2
      rw [(kinds q (by simp [hq])).1 s hqf] at this
      cases this
    have hn := inv.un k (by simp) hnS nm1 bb hf
    rw [← NO.congr ag1] at hrun
    obtain ⟨N', u, w', a1, a2, a3, a4, a5⟩ := NO_sound hm (evs_of inv.env) (fun _ => rfl) inv.sr.hr hn hrun
    have hwant := wanted_of inv.env hg (by rw [ag2]; exact hw)
    have hdef : ∀ c, o.op ≠ .defer c := by
      intro c e'
      rw [e'] at hm
      have := chkM_defer (X := X) (c := c) (m := .n p) (by simp)
      rw [chkM] at hm this
      rw [this] at hm
      cases hm
    have hd : ∀ q, k.g.o.dst = some q → q < t.size := by
      intro q hq
      rw [← hdst, hq] at hlt
      have hlt' : q < Sz := by simpa using hlt
      omega
    have hTS : HS (setS S k.g.i) st0 T1 = HS S st0 T1 := HS_agree (fun p hp => .inl (setS_ne (ne1 p hp)))
    have hnews : news (setS S k.g.i) T2 = news S T2 := news_agree (fun q hq => setS_ne (ne2 q hq))
    have hH : HS S st0 (T2 ++ k :: T1) = ⟨news S T2 ++ (HS S st0 T1).h, (HS S st0 T1).nx⟩ := by
      rw [HS_push hnp]
      simp only [HS, hnS, Bool.false_eq_true, if_false]
    have hH' : HS (setS S k.g.i) st0 (T2 ++ k :: T1) = ⟨news S T2 ++ (nm1, bb) :: (HS S st0 T1).h, (HS S st0 T1).nx⟩ := by
      rw [HS_push (fun q hq hs => hnp q hq (by rw [setS_ne (ne2 q hq)] at hs; exact hs)), hnews]
      simp only [HS, setS_eq, if_true, hf, Eff.ap, hTS]
    have hheq : ∀ m ob, hget (HS (setS S k.g.i) st0 (T2 ++ k :: T1)).h m = some ob → hget ((nm1, bb) :: (HS S st0 (T2 ++ k :: T1)).h) m = some ob := by
      intro m ob hob
      rw [hH'] at hob
      rw [hH]
      simp only [hget, hget_append] at hob ⊢
      by_cases he : nm1 = m
      · rw [if_pos he] at hob ⊢
        cases hy : hget (news S T2) m with
        | none => rw [hy] at hob; exact hob
        | some c =>
          exfalso
          obtain ⟨q, hq, _, hqf⟩ := news_mem hy
          have := hlater q hq m c hqf
          omega
      · rw [if_neg he] at hob ⊢
        exact hob
    have hnx := inv.nx
    refine ⟨N', putT t k.g.o.dst u, w', ⟨fun x => ?_, ⟨a3.weaken hheq, fun n hn' => ?_⟩, inv.gd.trans (a4.sub hheq), ?_, fun n hn' => ?_, fun q hq hs n b' hf' => ?_, ?_, cl'⟩, putT_size _ _ _,
      by rw [hdst]; exact .one (fr_op_value ho hwant hdef a1 rfl)⟩
    · rw [egeteq]
      exact ((inv.env.mono a4.le).put hd a2) x
    · rw [hH'] at hn'
      rw [hH] at hnx
      simp only at hn' hnx
      rw [a5 n (by omega)]
      exact inv.sr.fresh n (by rw [hH]; exact hn')
    · rw [hH']; rw [hH] at hnx; exact hnx
    · rw [a5 n (by omega)]; exact inv.old n hn'
    · obtain ⟨u1, u2⟩ := unS q hq hs
      rw [a5 n ?_]
      · exact inv.un q hq u1 n b' hf'
      · rcases List.mem_append.1 hq with h | h
        · have := hlater q h n b' hf'
          omega
        · rcases List.mem_cons.1 h with rfl | h
          · exact absurd rfl u2
          · have := names1.2 q h n b' hf'
            omega
    · exact x4_step hT inv hnS ne1 ne2 (fun _ _ _ => hnp) (fun s h => by rw [hf] at h; cases h)
  | @w p v s hw hop hrun =>
    have hisW : k.g.o.isW = true := by simp [MI.isW, hop]
    have hnp : ∀ q ∈ T2, S q.g.i = true → ∀ s, q.f ≠ .post s := by
      intro q hq hs s hqf
      have := ((later q hq hs).2.2.1 hisW).2
      rw [(kinds q (by simp [hq])).1 s hqf] at this
      cases this
    have hT1 : HS S st0 T1 = k.st := by
      refine (HS_agree (S' := fun _ => true) (fun q hq => ?_)).trans full2
      cases hs : S q.g.i with
      | true => exact .inl rfl
      | false =>
        right
        obtain ⟨_, h2, h3⟩ := earlier q hq hs
        by_cases hn : q.f = .non
        · exact hn
        · exfalso
          rcases (kinds q (by simp [hq])).2.2 hn with h | h
          · rw [(h2 h).2] at hisW; cases hisW
          · rw [(h3 h).2] at hisW; cases hisW
    have hH : HS S st0 (T2 ++ k :: T1) = ⟨news S T2 ++ k.st.h, k.st.nx⟩ := by
      rw [HS_push hnp]
      simp only [HS, hnS, Bool.false_eq_true, if_false, hT1]
    have hnews : news (setS S k.g.i) T2 = news S T2 := news_agree (fun q hq => setS_ne (ne2 q hq))
    have hH' : HS (setS S k.g.i) st0 (T2 ++ k :: T1) = ⟨news S T2 ++ s.h, s.nx⟩ := by
      rw [HS_push (fun q hq hs => hnp q hq (by rw [setS_ne (ne2 q hq)] at hs; exact hs)), hnews]
      simp only [HS, setS_eq, if_true, hf, Eff.ap]
    have hY : ∀ n ob, hget (news S T2) n = some ob → hget k.st.h n = none := by
      intro n ob hob
      obtain ⟨q, hq, h1, h2⟩ := news_mem hob
      have := inv.x4 T2 (k :: T1) rfl hnp q hq h1 n ob h2
      simp only [HS, hnS, Bool.false_eq_true, if_false, hT1] at this
      exact this
    have hsub : ∀ n ob, hget k.st.h n = some ob → hget (news S T2 ++ k.st.h) n = some ob := by
      intro n ob hob
      rw [hget_append]
      cases hy : hget (news S T2) n with
      | none => exact hob
      | some c => rw [hY n c hy] at hob; cases hob
    have hsr := inv.sr
    have hgd := inv.gd
    have hnx := inv.nx
    rw [hH] at hsr hgd hnx
    have hrun' : k.g.o.run call (ES S e0 (T2 ++ k :: T1)) k.st = some (eput (ES S e0 (T2 ++ k :: T1)) k.g.o.dst v, s) := by
      rw [hop] at ag1
      simp only [MI.run, ag2, hw, hop, MO.run]
      rw [WO.congr ag1, hrun]
    obtain ⟨N', t', w', a1, a2, a3, a4, a5, a6, a7⟩ := MI_sound hcall hrun' hc ho inv.env hsz ⟨hsr.hr.weaken hsub, hsr.fresh⟩ b d rest kk cs
    obtain ⟨r1, r2, r3⟩ := readd hsr.hr a3.hr a4 (fun n ob hob => by
      obtain ⟨q, hq, h1, h2⟩ := news_mem hob
      exact tr_own hT q (by simp [hq]) n ob h2) hY
    simp only at hnx
    refine ⟨N', t', w', ⟨fun x => by rw [egeteq]; exact a1 x, by rw [hH']; exact ⟨r1, a3.fresh⟩, by rw [hH']; exact hgd.trans r2, by rw [hH']; simp only; omega, fun n hn => ?_, fun q hq hs n bb hf' => ?_, ?_, cl'⟩, a2, a7⟩
    · rw [a6 n (by omega)]; exact inv.old n hn
    · have := names.2 q hq n bb hf'
      rw [a6 n (by omega)]
      exact inv.un q hq (unS q hq hs).1 n bb hf'
    · refine x4_step hT inv hnS ne1 ne2 (fun _ _ _ => hnp) (fun s' h => ?_)
      rw [hf] at h
      cases h
      exact ⟨hnp, r3⟩

end
end Go.Ev

/- Regions whose order is drawn: whatever order is drawn, the region does what the evaluator does. -/
namespace Go.Ev
open Go

variable {X : Cx} {N N' N'' : Nu} {D : ChkD}
variable {call : CallF} {nm0 nm : Nat} {e0 e : Env} {st0 st : St} {A : List (List Nat)} {T : List En} {N0 : Nu} {w0 w : World} {S : Nat → Bool} {t : Array Value}

theorem filter_lt {p q : Nat → Bool} : ∀ {l : List Nat}, (∀ x ∈ l, q x = true → p x = true) → (∃ x ∈ l, p x = true ∧ q x = false) → (l.filter q).length < (l.filter p).length
  | [], _, h => by obtain ⟨x, hx, _⟩ := h; cases hx
  | a :: l, h, hx => by
    have hle : ∀ {l : List Nat}, (∀ x ∈ l, q x = true → p x = true) → (l.filter q).length ≤ (l.filter p).length := by
      intro l
      induction l with
      | nil => intro _; exact Nat.le_refl _
      | cons a l ih =>
        intro h
        have := ih (fun x hx => h x (List.mem_cons_of_mem _ hx))
        have ha := h a List.mem_cons_self
        simp only [List.filter_cons]
        split
        · rename_i hq
          rw [if_pos (ha hq)]
          simp only [List.length_cons]; omega
        · split
          · simp only [List.length_cons]; omega
          · exact this
    obtain ⟨x, hx, h1, h2⟩ := hx
    rcases List.mem_cons.1 hx with rfl | hx
    · simp only [List.filter_cons, h1, h2, if_true, Bool.false_eq_true, if_false, List.length_cons]
      exact Nat.lt_succ_of_le (hle (fun y hy => h y (List.mem_cons_of_mem _ hy)))
    · have ih := filter_lt (fun y hy => h y (List.mem_cons_of_mem _ hy)) ⟨x, hx, h1, h2⟩
      have ha := h a List.mem_cons_self
      simp only [List.filter_cons]
      split
      · rename_i hq
        rw [if_pos (ha hq)]
        simp only [List.length_cons]; omega
      · split
        · simp only [List.length_cons]; omega
        · exact ih

def cnt (ops : Array Oper) (listed : Array Bool) : Nat := ((List.range ops.size).filter fun i => !listed.getD i true).length

def SofL (listed : Array Bool) : Nat → Bool := fun i => listed.getD i false

theorem getD_tf {listed : Array Bool} {i : Nat} (h : i < listed.size) (a b : Bool) : listed.getD i a = listed.getD i b := by
  simp [Array.getD, h]

theorem SofL_set {listed : Array Bool} {j : Nat} (h : j < listed.size) : SofL (listed.setIfInBounds j true) = setS (SofL listed) j := by
  funext i
  simp only [SofL, setS, Array.getD_eq_getD_getElem?, Array.getElem?_setIfInBounds]
  by_cases e : i = j
  · subst e; simp [h]
  · rw [if_neg e, if_neg (fun h => e h.symm)]

theorem ready_spec {md : Region.Mode} {ops : Array Oper} {listed : Array Bool} {j : Nat} (h : j ∈ Region.ready md ops listed) :
    j < ops.size ∧ listed.getD j true = false ∧ ∃ o, ops[j]? = some o ∧ ∀ e ∈ o.after.toList, Region.binds md e = true → listed.getD e.on false = true := by
  unfold Region.ready at h
  simp only [List.mem_filter, List.mem_range, bool_and, Bool.not_eq_true'] at h
  obtain ⟨h1, h2, h3⟩ := h
  refine ⟨h1, h2, ?_⟩
  cases ho : ops[j]? with
  | none => rw [ho] at h3; cases h3
  | some o =>
    rw [ho] at h3
    refine ⟨o, rfl, fun e he hb => ?_⟩
    simp only [Option.map_some, Option.getD_some, Array.all_eq_true_iff_forall_mem, Bool.or_eq_true, Bool.not_eq_true'] at h3
    rcases h3 e (by simpa using he) with h | h
    · rw [hb] at h; cases h
    · exact h

theorem ready_of {md : Region.Mode} {ops : Array Oper} {listed : Array Bool} {j : Nat} {o : Oper} (h1 : j < ops.size) (h2 : listed.getD j true = false) (ho : ops[j]? = some o)
    (h3 : ∀ e ∈ o.after.toList, Region.binds md e = true → listed.getD e.on false = true) : j ∈ Region.ready md ops listed := by
  unfold Region.ready
  simp only [List.mem_filter, List.mem_range, bool_and, Bool.not_eq_true']
  refine ⟨h1, h2, ?_⟩
  rw [ho]
  simp only [Option.map_some, Option.getD_some, Array.all_eq_true_iff_forall_mem, Bool.or_eq_true, Bool.not_eq_true']
  intro e he
  cases hb : Region.binds md e with
  | false => exact .inl rfl
  | true => exact .inr (h3 e (by simpa using he) hb)

theorem go_sound {Sz : Nat} {ops : Array Oper} (hcall : CallOK D X call) (hT : Tr call nm0 e0 st0 T nm e st) (hnm : nm ≤ st0.nx) (hpw : pwOK A (T.map En.g) = true)
    (hcover : ∀ i, i < ops.size → ∃ k ∈ T, k.g.i = i) (hchk : ∀ k ∈ T, ∃ o, ops[k.g.i]? = some o ∧ chkI X Sz ops k.g.o o = true) (hon : onOK ops = true) (hanc : ancOK A ops = true)
    (b : Frame) (d : List Deferred) (kk : List Item) (cs : List Frame) :
    ∀ (fuel tt : Nat) (listed : Array Bool) (N : Nu) (t : Array Value) (w : World), listed.size = ops.size → Inv D X nm0 e0 st0 A T N0 w0 (SofL listed) N t w → cnt ops listed ≤ fuel → Sz ≤ t.size →
      ∃ N' t' w' S', (∀ k ∈ T, S' k.g.i = true) ∧ Inv D X nm0 e0 st0 A T N0 w0 S' N' t' w' ∧ t'.size = t.size ∧
        Steps X.P (lone (Fr b t d (.inRegion ops (Region.linearise.go .any ops fuel tt listed []) :: kk)) cs w) (lone (Fr b t' d (.inRegion ops [] :: kk)) cs w') := by
  have lt_of : ∀ k ∈ T, k.g.i < ops.size := fun k hk => by
    obtain ⟨o, ho, _⟩ := hchk k hk
    exact (Array.getElem?_eq_some_iff.1 ho).1
  intro fuel
  induction fuel with
  | zero =>
    intro tt listed N t w hl inv hcnt hsz
    refine ⟨N, t, w, SofL listed, fun k hk => ?_, inv, rfl, .refl _ _⟩
    have hlt := lt_of k hk
    cases hq : SofL listed k.g.i with
    | true => rfl
    | false =>
      exfalso
      have : k.g.i ∈ (List.range ops.size).filter fun i => !listed.getD i true := by
        simp only [List.mem_filter, List.mem_range, Bool.not_eq_true']
        exact ⟨hlt, by rw [getD_tf (by omega) true false]; exact hq⟩
      have := List.length_pos_of_mem this
      simp only [cnt] at hcnt
      omega
  | succ fuel ih =>
    intro tt listed N t w hl inv hcnt hsz
    simp only [Region.linearise.go]
    change ∃ N' t' w' S', _ ∧ _ ∧ _ ∧ Steps X.P (lone (Fr b t d (.inRegion ops (match (Region.ready .any ops listed)[tt % (Region.ready .any ops listed).length]? with
      | some i => Region.linearise.go .any ops fuel (tt / (Region.ready .any ops listed).length) (listed.setIfInBounds i true) [i]
      | none => [].reverse) :: kk)) cs w) _
    cases hi : (Region.ready .any ops listed)[tt % (Region.ready .any ops listed).length]? with
    | none =>
      have hnil : Region.ready .any ops listed = [] := by
        cases hr : Region.ready .any ops listed with
        | nil => rfl
        | cons x xs =>
          rw [hr] at hi
          have hlt : tt % (x :: xs).length < (x :: xs).length := Nat.mod_lt _ (by simp)
          simp at hi
          simp at hlt
          omega
      have all : ∀ i, i < ops.size → SofL listed i = true := by
        intro i
        induction i using Nat.strongRecOn with
        | ind i ih' =>
          intro hlt
          cases hq : SofL listed i with
          | true => rfl
          | false =>
            exfalso
            have ho : ops[i]? = some ops[i] := Array.getElem?_eq_getElem hlt
            have : i ∈ Region.ready .any ops listed := ready_of hlt (by rw [getD_tf (by omega) true false]; exact hq) ho (fun e he hb => by
              have h1 := hon
              simp only [onOK, List.all_eq_true, List.mem_range] at h1
              have h2 := h1 i hlt
              rw [ho] at h2
              simp only [List.all_eq_true, Bool.or_eq_true, Bool.not_eq_true', decide_eq_true_eq] at h2
              rcases h2 e he with h3 | h3
              · rw [hb] at h3; cases h3
              · exact ih' e.on h3 (by omega))
            rw [hnil] at this
            cases this
      refine ⟨N, t, w, SofL listed, fun k hk => all _ (lt_of k hk), inv, rfl, ?_⟩
      exact .refl _ _
    | some j =>
      simp only []
      rw [linearise_go_acc, List.reverse_singleton, List.singleton_append]
      obtain ⟨r1, r2, o, ho, r3⟩ := ready_spec (List.mem_of_getElem? hi)
      obtain ⟨k, hk, rfl⟩ := hcover j r1
      obtain ⟨o', ho', hc⟩ := hchk k hk
      rw [ho] at ho'
      cases ho'
      obtain ⟨T2, T1, rfl⟩ := List.append_of_mem hk
      have hrd : ∀ a, ltA A a k.g.i = true → SofL listed a = true := by
        intro a ha
        have h1 := hanc
        simp only [ancOK, List.all_eq_true, List.mem_range] at h1
        have h2 := h1 k.g.i r1 a (hmem_iff.1 ha)
        rw [ho] at h2
        simp only [List.any_eq_true, bool_and, Bool.or_eq_true, decide_eq_true_eq] at h2
        obtain ⟨e, he, hb, h3⟩ := h2
        have h4 := r3 e he hb
        rcases h3 with h3 | h3
        · rw [← h3]; exact h4
        · exact inv.cl e.on h4 a h3
      obtain ⟨N1, t1, w1, i1, i2, i3⟩ := inv.step hcall hT hnm hpw (by rw [getD_tf (by omega) true false] at r2; exact r2) hrd ho hc hsz b d
        (Region.linearise.go .any ops fuel (tt / (Region.ready .any ops listed).length) (listed.setIfInBounds k.g.i true) []) kk cs
      rw [← SofL_set (by omega)] at i1
      have hdec : cnt ops (listed.setIfInBounds k.g.i true) < cnt ops listed := by
        refine filter_lt (fun x hx hq => ?_) ⟨k.g.i, List.mem_range.2 r1, by simp [r2], ?_⟩
        · simp only [Bool.not_eq_true'] at hq ⊢
          have hx' := List.mem_range.1 hx
          simp only [Array.getD_eq_getD_getElem?, Array.getElem?_setIfInBounds] at hq ⊢
          split at hq
          · split at hq <;> simp at hq
          · exact hq
        · simp only [Bool.not_eq_false', Array.getD_eq_getD_getElem?, Array.getElem?_setIfInBounds, if_true]
          rw [if_pos (by omega)]
          rfl
      obtain ⟨N2, t2, w2, S2, j1, j2, j3, j4⟩ := ih (tt / (Region.ready .any ops listed).length) (listed.setIfInBounds k.g.i true) N1 t1 w1 (by simp [hl]) i1 (by omega) (by omega)
      exact ⟨N2, t2, w2, S2, j1, j2, by omega, i3.trans j4⟩

theorem drawOK (hmix : X.P.follows .mixedOrders = true) : DrawOK chkD X := by
  intro call hcall Sz ops L e0 st e' st' hrun hchk N b t d k cs w tt he hs hr
  unfold chkD at hchk
  split at hchk
  · cases hchk
  · rename_i gs hgs
    simp only [bool_and, decide_eq_true_eq, List.all_eq_true, List.mem_range, List.any_eq_true] at hchk
    obtain ⟨hlen, hcov, hchkI, hon, hanc, hpw⟩ := hchk
    obtain ⟨T, nm, hT, hmap, hnm⟩ := tr_of_runR (call := call) (nm0 := st.nx) (e0 := e0) (st0 := ⟨st.h, st.nx + L.length⟩) L [] st.nx e0 e' ⟨st.h, st.nx + L.length⟩ st' [] gs hrun .nil (fun j => rfl) hgs
    have hHS0 : ∀ T : List En, HS (SofL (Array.replicate ops.size false)) ⟨st.h, st.nx + L.length⟩ T = ⟨st.h, st.nx + L.length⟩ := by
      intro T
      induction T with
      | nil => rfl
      | cons q T ih =>
        simp only [HS, ih]
        rw [if_neg]
        simp [SofL, Array.getD]
    have hS0 : ∀ i, SofL (Array.replicate ops.size false) i = false := fun i => by simp [SofL, Array.getD]
    have hES0 : ∀ T : List En, ES (SofL (Array.replicate ops.size false)) e0 T = e0 := by
      intro T
      induction T with
      | nil => rfl
      | cons q T ih => simp only [ES, ih, hS0, Bool.false_eq_true, if_false]
    have inv0 : Inv chkD X st.nx e0 ⟨st.h, st.nx + L.length⟩ (mkA ops.toList) T N w (SofL (Array.replicate ops.size false)) N t w := by
      refine ⟨by rw [hES0]; exact he, by rw [hHS0]; exact ⟨hr.hr, fun n hn => hr.fresh n (by simp only at hn; omega)⟩, by rw [hHS0]; exact .refl _ _ _, by rw [hHS0]; exact Nat.le_refl _, fun _ _ => rfl,
        fun q hq _ n bb hf => hr.fresh n (by have := (tr_names hT).2 q hq n bb hf; omega), fun _ _ _ _ q _ hq => ?_, fun i hi => ?_⟩
      · rw [hS0] at hq; cases hq
      · rw [hS0] at hi; cases hi
    obtain ⟨N', t', w', S', a1, a2, a3, a4⟩ := go_sound (A := mkA ops.toList) (N0 := N) (w0 := w) hcall hT hnm (by rw [hmap]; exact hpw)
      (fun i hi => by
        obtain ⟨g, hg, hgi⟩ := hcov i hi
        rw [← hmap] at hg
        obtain ⟨q, hq, rfl⟩ := List.mem_map.1 hg
        exact ⟨q, hq, hgi⟩)
      (fun q hq => by
        have := hchkI q.g (by rw [← hmap]; exact List.mem_map_of_mem hq)
        split at this
        · rename_i o ho; exact ⟨o, ho, this⟩
        · cases this) hon hanc b d k cs ops.size tt (Array.replicate ops.size false) N t w (by simp) inv0 (by
        simp only [cnt]
        have := List.length_filter_le (fun i => !(Array.replicate ops.size false).getD i true) (List.range ops.size)
        simpa using this) hs
    have hES : ∀ x, eget (ES S' e0 T) x = eget e' x := fun x => by
      rw [ES_agree (S' := fun _ => true) (fun q hq => .inl (a1 q hq)), (tr_full hT).1]
    have hHS : HS S' ⟨st.h, st.nx + L.length⟩ T = st' := by
      rw [HS_agree (S' := fun _ => true) (fun q hq => .inl (a1 q hq)), (tr_full hT).2]
    have hsr := a2.sr
    have hgd := a2.gd
    have hnx := a2.nx
    rw [hHS] at hsr hgd hnx
    refine ⟨N', t', w', fun x => by rw [← hES]; exact a2.env x, a3, hsr, hgd, by simp only at hnx; omega, a2.old, ?_⟩
    simp only [Region.schedule, hmix, Bool.true_or, if_true]
    exact a4

end Go.Ev

/- The functions of a program: their numbers, their abstract bodies, and the check that these belong together. -/
namespace Go.Ev
open Go
set_option linter.unusedSimpArgs false
set_option linter.unusedVariables false

/-- Numbers by numbers. -/
inductive NT where
  | nil
  | node (l : NT) (k v : Nat) (r : NT)

def NT.get : NT → Nat → Nat
  | .nil, _ => 999999
  | .node l k v r, n => if n = k then v else if n < k then l.get n else r.get n

/-- Functions by numbers. -/
inductive FT where
  | nil
  | node (l : FT) (k : Nat) (v : MFun) (r : FT)

def FT.get : FT → Nat → Option MFun
  | .nil, _ => none
  | .node l k v r, n => if n = k then some v else if n < k then l.get n else r.get n

def FT.All (P : Nat → MFun → Prop) : FT → Prop
  | .nil => True
  | .node l k v r => l.All P ∧ P k v ∧ r.All P

theorem FT.get_all {P : Nat → MFun → Prop} : ∀ {t : FT} {n : Nat} {m : MFun}, t.All P → t.get n = some m → P n m
  | .nil, _, _, _, h => by cases h
  | .node l k v r, n, m, ⟨h1, h2, h3⟩, h => by
    simp only [FT.get] at h
    split at h
    · rename_i e; subst e; cases h; exact h2
    · split at h
      · exact FT.get_all h1 h
      · exact FT.get_all h3 h

def FnOK (X : Cx) (f : Nat) (mf : MFun) : Prop := ∃ fn c S, X.P.funcs[X.φ f]? = some fn ∧ fn.body = some c ∧ (fn.name == "runtime.NumGoroutine") = false ∧ S ≤ fn.ntmps ∧
  chkC chkD X S mf.body c = true ∧ chkRess X mf.results fn.results.toList = true

def fnChk (X : Cx) (mf : MFun) (fn : Func) : Bool :=
  match fn.body with
  | some c => !(fn.name == "runtime.NumGoroutine") && (chkC chkD X fn.ntmps mf.body c && chkRess X mf.results fn.results.toList)
  | none => false

theorem fnOK_of {X : Cx} {f i : Nat} {mf : MFun} {fn : Func} (hφ : X.φ f = i) (h : X.P.funcs[i]? = some fn) (hc : fnChk X mf fn = true) : FnOK X f mf := by
  unfold fnChk at hc
  split at hc
  · rename_i c hb
    simp only [bool_and, Bool.not_eq_true'] at hc
    exact ⟨fn, c, fn.ntmps, by rw [hφ]; exact h, hb, hc.1, Nat.le_refl _, hc.2.1, hc.2.2⟩
  · cases hc

theorem tabOK_of {X : Cx} {t : FT} {en : Nat → Option Entry} (h : t.All (FnOK X)) (he : ∀ f F, en f = some F → EntryOK chkD X f F) : TabOK chkD X ⟨t.get, en⟩ :=
  ⟨fun _ _ _ hf => FT.get_all h hf, he⟩

end Go.Ev

/- A law: its call, from the evaluator's word. -/
namespace Go.Ev
open Go Go.RowKit
set_option linter.unusedSimpArgs false
set_option linter.unusedVariables false

variable {X : Cx} {N N' N'' : Nu} {D : ChkD}

theorem exec_calls {ex : ExF} {T : Tab} (hx : CodeOK D X ex) (hT : TabOK D X T) {f : Nat} {mf : MFun} (hen : T.en f = none) (hmf : T.fn f = some mf) {args : List AV} {st st1 : St} {x : Ex} {e' : Env} {b : Bool}
    (hex : ex mf.body (argEnv 0 args) st = some (x, e', st1)) (hxr : x = .norm ∨ x = .ret) (hv : fresults st1.h e' mf.results = some (.bool b)) {w : World} {us : List Value} (hr : SR D X N st w)
    (ha : VRs X N args us) (hown : ∀ k, ¬ Own N st.h k) :
    Calls X.P (X.φ f) us.toArray w fun e w' => e = .returned (.bool b) ∧ Below w.heap.size w w' := by
  intro cs
  obtain ⟨fn, code, S, hf, hbody, hname, hS, hchk, hres⟩ := hT.fn f mf hen hmf
  let b0 : Frame := { (default : Frame) with fn := X.φ f, kind := .normal }
  let t0 : Array Value := us.toArray ++ Array.replicate (fn.ntmps - us.toArray.size) undef
  have henter : Frame.enter X.P (X.φ f) us.toArray .normal = Fr b0 t0 [] [.code code] := by
    simp [Frame.enter, Fr, hf, hbody, b0, t0]; rfl
  have hsize : S ≤ t0.size := by simp [t0]; omega
  obtain ⟨N1, t1, d1, w1, a1, a2, a3, a4, a5, a6, a7, _, a9⟩ := hx mf.body code S (argEnv 0 args) st x e' st1 hex hchk N b0 t0 [] [] cs w w.heap.size (EnvR.args ha _) hsize hr ⟨[], rfl, List.nodup_nil, by simp⟩ (Nat.le_refl _) (.inl rfl)
  have a9 := a9 _ rfl
  obtain ⟨rs, rfl, hrn, hrd⟩ := a7
  obtain ⟨todo, hret⟩ : ∃ todo, Steps X.P (lone (Fr b0 t0 [] [.code code]) cs w) (lone { Fr b0 t1 (rs.map fun r => { target := .collected r, args := #[] }) todo with mode := .returning } cs w1) := by
    rcases hxr with rfl | rfl
    · exact ⟨[], Steps.trans a9 (.one (fr_end rfl))⟩
    · obtain ⟨k2, M', hk2, hk3⟩ := a9
      exact ⟨_, Steps.trans hk2 (.one (hk3.trans (fr_ret rfl)))⟩
  obtain ⟨w2, b1, b2, b3, b4, b5, b6, b7⟩ := unwind_marks (b := b0) (t := t1) (todo := todo) (cs := cs) (B := w.heap.size) rs w1 a3.hr hrn hrd
  obtain ⟨u, r1, r2⟩ := results_sound b2 a1 hres hv
  cases r2
  refine ⟨.returned (.bool b), w2, { Fr b0 t1 [] todo with mode := .returning }, ⟨rfl, b5.trans a4.os, b4.trans a4.tape, b6.trans a4.output, by rw [b3]; exact a4.size, fun k hk => by rw [b7 k hk]; exact a4.frame k hk (hown k)⟩, ?_, rfl, rfl, rfl, rfl, fn, hf, r1⟩
  rw [henter]
  exact Steps.trans hret b1

end Go.Ev
