/- Functions of numbers, bools and strings that leave the heap alone: what the kernel finds in an empty state holds in any. -/
import Derived.Test.YtdlhjfmakdbmkaaGreatDoorP03
import Derived.KernelRfl
import Derived.Lib.Repeat
import Derived.Lib.Bytealg
import Derived.Laws.Externs
import Derived.Lib.LaidTab
import Derived.Lib.ItoaNum
import Derived.Lib.Case
set_option linter.unusedSimpArgs false
set_option linter.unusedVariables false
set_option linter.unusedSectionVars false
namespace Go.Ev
open Go
variable {T T' : Tab} {st : St}
def Zyu (i:MI):Bool:=
 match i.op with
 | .p _=>true
 | .w (.call (.k (.fn _ [] [])) _)=>true
 | _=>false
def Fo:Zv→Bool
 | .skip | .exit _ | .ret | .Zd _=>true
 | .Ze l=>l.all Zyu
 | .seq a b | .cond _ a b=>Fo a && Fo b
 | .block _ b | .loop b | .scope b=>Fo b
 | _=>false
def Zu8:Zdc→Bool
 | .t _=>true
 | _=>false
def Zio (T' T:Tab):Prop:=(∀k,T'.en k=none)∧∀k mf,T'.fn k=some mf→T.fn k=some mf∧T.en k=none∧Fo mf.body=true∧mf.results.all Zu8=true
abbrev s0:St:=⟨[],0⟩
def Zsp (T' T:Tab) (n:Nat):Prop:=
 ∀c e r,Fo c=true→exec T' n c e s0=some r→r.2.2=s0∧∀st:St,st.Wf→exec T n c e st=some (r.1,r.2.1,st)
theorem P1 {e:Env} {v:AV} {h h':Heap}:∀{l:List Zdc} {vs:List AV},l.all Zu8=true→Qn h e l=some vs→Qn h' e l=some vs
 | [],vs,_,hv=>hv
 | .t n::l,vs,hl,hv=>by
   simp only[List.all_cons,Bool.and_eq_true]at hl
   simp only[Qn,Jk]at hv⊢
   split at hv
   ·rename_i v1 vs1 h1 h2
    cases h1
    rw[P1 (v:=v) hl.2 h2]
    exact hv
   ·cases hv
 | .cell n s::l,vs,hl,hv=>by simp[Zu8]at hl
theorem Zwh {n:Nat} (hin:Zio T' T) (ih:Zsp T' T n) {k:Nat} {args:List AV} {r:AV×St} (h:Jb T' (exec T' n) (.fn k [] []) args s0=some r):
  r.2=s0∧∀st:St,st.Wf→Jb T (exec T n) (.fn k [] []) args st=some (r.1,st):=by
 simp only[Jb,W1,hin.1 k,List.nil_append,List.append_nil]at h⊢
 split at h
 ·cases h
 ·rename_i mf hmf
  obtain⟨h1,h2,h3,h4⟩:=hin.2 k mf hmf
  split at h
  case isFalse=>cases h
  rename_i hl
  have key:∀x e' s,exec T' n mf.body (V0 0 args) s0=some (x,e',s)→(x= .norm∨x= .ret)→(∀v,Zt s.h e' mf.results=some v→r=(v,⟨Zb s0.nx s.h,s.nx⟩)→
    r.2=s0∧∀st:St,st.Wf→(match T.en k with | some F=>F args st | none=>match T.fn k with | none=>none | some mf=>if args.length=mf.Zg7 then match exec T n mf.body (V0 0 args) st with
      | some (.norm,e',st') | some (.ret,e',st')=>(match Zt st'.h e' mf.results with | some v=>some (v,⟨Zb st.nx st'.h,st'.nx⟩) | none=>none) | _=>none else none)=some (r.1,st)):=by
   intro x e' s hx hxr v hv hr
   obtain⟨g1,g2⟩:=ih _ _ _ h3 hx
   simp only at g1
   subst g1
   subst hr
   refine⟨rfl,fun st hst=> ?_⟩
   have g3:=g2 st hst
   simp only at g3
   have hd:Zb st.nx st.h=st.h:=by
    rw[Us,Gw (fun n o ho=>hst.lt n o ho),Zaj]
   have hfr:Zt st.h e' mf.results=some v:=by
    unfold Zt at hv⊢
    cases hq:Qn s0.h e' mf.results with
    | none=>rw[hq]at hv;cases hv
    | some vs=>rw[hq]at hv;rw[P1 (v:=v) h4 hq];exact hv
   simp only[h1,h2]
   rw[if_pos hl,g3]
   rcases hxr with rfl | rfl <;> simp only[hfr,hd]
  split at h <;> rename_i hx
  ·split at h <;> rename_i hv
   ·cases h;exact key _ _ _ hx (.inl rfl) _ hv rfl
   ·cases h
  ·split at h <;> rename_i hv
   ·cases h;exact key _ _ _ hx (.inr rfl) _ hv rfl
   ·cases h
  ·cases h
theorem Zrs {n:Nat} (hin:Zio T' T) (ih:Zsp T' T n):∀{l:List MI} {e:Env} {r:Env×St},l.all Zyu=true→Ko (Jb T' (exec T' n)) l e s0=some r→
  r.2=s0∧∀st:St,st.Wf→Ko (Jb T (exec T n)) l e st=some (r.1,st)
 | [],e,r,_,h=>by cases h;exact⟨rfl,fun _ _=>rfl⟩
 | i::l,e,r,hl,h=>by
   simp only[List.all_cons,Bool.and_eq_true]at hl
   obtain⟨hi,hl⟩:=hl
   simp only[Ko]at h⊢
   split at h
   case h_2=>cases h
   rename_i e1 st1 h1
   have one:st1=s0∧∀st:St,st.Wf→i.run (Jb T (exec T n)) e st=some (e1,st):=by
    obtain⟨d,g,o⟩:=i
    unfold MI.run at h1⊢
    simp only at h1⊢
    split at h1
    ·rename_i hw
     simp only[Zyu]at hi
     cases o with
     | p o=>
       simp only[MO.run]at h1⊢
       split at h1
       ·rename_i v1 st2 h2
        split at h2
        ·rename_i v2 h3
         cases h2
         cases h1
         exact⟨rfl,fun st _=>by simp⟩
        ·cases h2
       ·cases h1
     | w o=>
       cases o with
       | call f xs=>
         cases f with
         | k v=>
           cases v with
           | fn k a b=>
             cases a with
             | nil=>
               cases b with
               | nil=>
                 simp only[MO.run,WO.run,AO.ev]at h1⊢
                 split at h1
                 ·rename_i v1 st2 h2
                  obtain⟨g1,g2⟩:=Zwh hin ih h2
                  simp only at g1
                  subst g1
                  cases h1
                  refine⟨rfl,fun st hst=> ?_⟩
                  have g3:=g2 st hst
                  simp only at g3
                  simp only[g3]
                 ·cases h1
               | cons=>simp at hi
             | cons=>simp at hi
           | _=>simp at hi
         | t=>simp at hi
       | _=>simp at hi
     | _=>simp at hi
    ·rename_i hw
     cases h1
     exact⟨rfl,fun st _=>by simp⟩
    ·cases h1
   obtain⟨rfl,one⟩:=one
   obtain⟨g1,g2⟩:=Zrs hin ih hl h
   exact⟨g1,fun st hst=>by simp only[one st hst];exact g2 st hst⟩
theorem Zu9 (hin:Zio T' T):∀n,Zsp T' T n
 | 0=>fun c e r _ h=>by cases h
 | n+1=>by
   have ih:=Zu9 hin n
   intro c e r hc h
   rw[W7]at h
   have two:∀{a b:Zv},Fo a=true→Fo b=true→(match exec T' n a e s0 with | some (.norm,e,st)=>exec T' n b e st | r=>r)=some r→
     r.2.2=s0∧∀st:St,st.Wf→(match exec T n a e st with | some (.norm,e,st)=>exec T n b e st | r=>r)=some (r.1,r.2.1,st):=by
    intro a b ha hb h
    split at h
    ·rename_i e1 st1 h1
     obtain⟨g1,g2⟩:=ih _ _ _ ha h1
     simp only at g1
     subst g1
     obtain⟨k1,k2⟩:=ih _ _ _ hb h
     exact⟨k1,fun st hst=>by rw[g2 st hst];exact k2 st hst⟩
    ·rename_i hne
     obtain⟨g1,g2⟩:=ih _ _ _ ha h
     refine⟨g1,fun st hst=> ?_⟩
     rw[g2 st hst]
     obtain⟨x,e1,s1⟩:=r
     simp only at g1
     subst g1
     cases x with
     | norm=>exact absurd h (hne _ _)
     | _=>rfl
   cases c with
   | skip=>cases h;exact⟨rfl,fun st _=>rfl⟩
   | exit i=>cases h;exact⟨rfl,fun st _=>rfl⟩
   | ret=>cases h;exact⟨rfl,fun st _=>rfl⟩
   | Zd l=>cases h;exact⟨rfl,fun st _=>rfl⟩
   | Ze l=>
     simp only[Fo]at hc
     simp only[Zz]at h
     split at h
     ·rename_i e1 st1 h1
      obtain⟨g1,g2⟩:=Zrs hin ih hc h1
      cases h
      refine⟨g1,fun st hst=> ?_⟩
      rw[W7]
      simp only[Zz,g2 st hst]
     ·cases h
   | seq a b=>
     simp only[Fo,Bool.and_eq_true]at hc
     by_cases hk:∃l,a= .Zd l
     ·obtain⟨l,rfl⟩:=hk
      simp only[Zz]at h
      obtain⟨g1,g2⟩:=ih _ _ _ hc.2 h
      refine⟨g1,fun st hst=> ?_⟩
      rw[W7]
      simp only[Zz]
      exact g2 st hst
     ·have e1:∀(T:Tab) (ex:ExF) st,Zz T ex (.seq a b) e st=(match ex a e st with | some (.norm,e,st)=>ex b e st | r=>r):=by
       intro T ex st
       cases a <;> first | rfl | exact absurd ⟨_,rfl⟩ hk
      rw[e1]at h
      obtain⟨g1,g2⟩:=two hc.1 hc.2 h
      refine⟨g1,fun st hst=> ?_⟩
      rw[W7,e1]
      exact g2 st hst
   | cond x a b=>
     simp only[Fo,Bool.and_eq_true]at hc
     simp only[Zz]at h
     split at h
     ·rename_i hx
      obtain⟨g1,g2⟩:=ih _ _ _ hc.1 h
      exact⟨g1,fun st hst=>by rw[W7];simp only[Zz,hx];exact g2 st hst⟩
     ·rename_i hx
      obtain⟨g1,g2⟩:=ih _ _ _ hc.2 h
      exact⟨g1,fun st hst=>by rw[W7];simp only[Zz,hx];exact g2 st hst⟩
     ·cases h
   | block i b=>
     simp only[Fo]at hc
     simp only[Zz]at h
     split at h
     ·rename_i i2 e2 st2 h1
      obtain⟨g1,g2⟩:=ih _ _ _ hc h1
      simp only at g1
      subst g1
      split at h
      ·rename_i hi
       cases h
       exact⟨rfl,fun st hst=>by rw[W7];simp only[Zz,g2 st hst];rw[if_pos hi]⟩
      ·rename_i hi
       cases h
       exact⟨rfl,fun st hst=>by rw[W7];simp only[Zz,g2 st hst];rw[if_neg hi]⟩
     ·rename_i hne
      obtain⟨g1,g2⟩:=ih _ _ _ hc h
      refine⟨g1,fun st hst=> ?_⟩
      rw[W7]
      simp only[Zz,g2 st hst]
      obtain⟨x,e1,s1⟩:=r
      cases x with
      | exit i=>exact absurd h (hne _ _ _)
      | _=>rfl
   | loop b=>
     simp only[Fo]at hc
     simp only[Zz]at h
     obtain⟨g1,g2⟩:=two hc (b:= .loop b) hc h
     refine⟨g1,fun st hst=> ?_⟩
     rw[W7]
     simp only[Zz]
     exact g2 st hst
   | scope b=>
     simp only[Fo]at hc
     simp only[Zz]at h
     obtain⟨g1,g2⟩:=ih _ _ _ hc h
     exact⟨g1,fun st hst=>by rw[W7];simp only[Zz];exact g2 st hst⟩
   | rangeFunc=>cases hc
   | rangeMap=>cases hc
   | Kv=>cases hc
   | stuck=>cases hc
noncomputable def Zy6 (T':Tab) (n:Nat) (mf:Qa) (args:List AV) (v:AV):Bool:=
 Fo mf.body && mf.results.all Zu8 &&
 match exec T' n mf.body (V0 0 args) s0 with
 | some (.norm,e,s) | some (.ret,e,s)=>(match Zt s.h e mf.results with | some u=>Vg u v | none=>false)
 | _=>false
theorem Zue {n k:Nat} {mf:Qa} (hin:Zio T' T) (hen:T.en k=none) (hf:T.fn k=some mf) (hst:st.Wf) {args:List AV} {v:AV} (hl:args.length=mf.Zg7) (hs:Zy6 T' n mf args v=true):
  Z9 T st (.fn k [] []) args v:=by
 unfold Zy6 at hs
 simp only[Bool.and_eq_true]at hs
 obtain⟨⟨h1,h2⟩,h3⟩:=hs
 refine Zm hen hf (by simpa using hl) ?_
 simp only[List.nil_append,List.append_nil]
 have key:∀x e s,exec T' n mf.body (V0 0 args) s0=some (x,e,s)→(x= .norm∨x= .ret)→(match Zt s.h e mf.results with | some u=>Vg u v | none=>false)=true→
   Res (run T mf.body (V0 0 args) st) fun x e s=>(x= .norm∨x= .ret)∧Zt s.h e mf.results=some v∧Ext st s:=by
  intro x e s hx hxr hv
  obtain⟨g1,g2⟩:=Zu9 hin n _ _ _ h1 hx
  simp only at g1
  subst g1
  have g3:=Wr.2 ⟨n,g2 st hst⟩
  rw[g3]
  refine⟨hxr,?_,.refl hst⟩
  split at hv
  ·rename_i u hu
   have:=Fc hv
   subst this
   unfold Zt at hu⊢
   cases hq:Qn s0.h e mf.results with
   | none=>rw[hq]at hu;cases hu
   | some vs=>rw[hq]at hu;rw[P1 (v:=u) h2 hq];exact hu
  ·cases hv
 split at h3 <;> rename_i hx
 ·exact key _ _ _ hx (.inl rfl) h3
 ·exact key _ _ _ hx (.inr rfl) h3
 ·cases h3
def T0:Tab:=⟨fun _=>none,fun _=>none⟩
theorem Zabc:Zio T0 T:=⟨fun _=>rfl,fun _ _ h=>by cases h⟩
def T1 (k:Nat) (m:Qa):Tab:=⟨fun i=>if i=k then some m else none,fun _=>none⟩
theorem Zit {P:Nat→Bool} (h:(List.range 256).all P=true) (c:UInt8):P c.toNat=true:=List.all_eq_true.1 h _ (List.mem_range.2 c.toNat_lt)
end Go.Ev

/- An entry of the table out of a contract: a function of the library that is called. -/
namespace Go.Ev
open Go Go.RowKit
variable {X : Cx} {N : Nu} {D : Mc}
theorem HR.below {h:Heap} {w w':World} (hr:HR D X N h w) (b:Below w.heap.size w w'):HR D X N h w':=
 ⟨fun n o ho=>(hr.Um n o ho).Zd (.refl N) b.size (fun a ha=>b.block _ ((hr.Um n o ho).lt ha)),hr.sep⟩
theorem Gd.below {h:Heap} {w w':World} (b:Below w.heap.size w w'):Gd N h w N h w':=
 ⟨.refl N,b.size,b.tape,b.os,b.output,fun k hk _=>b.block k hk,fun n o a h1 h2=> .inl ⟨n,o,a,h1,h2,rfl,id⟩⟩
def Zbs (P:Program) (f:FuncId):Bool:=
 match P.funcs[f]? with
 | some fn=>fn.body.isSome && !(fn.name == "runtime.NumGoroutine")
 | none=>false
theorem Ik {P:Program} {f:FuncId} {us:Array Value} {w w':World} {u:Value} {c:Frame} {cs:List Frame} (hb:Zbs P f=true)
  (h:∃fr,Comes P (lone (Frame.enter P f us .normal) (c::cs) w) (lone fr (c::cs) w') (.returned u)∧fr.leaving P w' (.returned u)):Oj P (callFunc f us) w c cs u w':=by
 unfold Zbs at hb
 split at hb
 case h_2=>cases hb
 rename_i fn hf
 simp only[Bool.and_eq_true,Bool.not_eq_true']at hb
 obtain⟨body,hbody⟩:=Option.isSome_iff_exists.1 hb.1
 obtain⟨fr,h1,h2⟩:=h
 have hcf:(callFunc f us).run P w= .ok (.enter f us) w:=by
  have hname':¬fn.name= "runtime.NumGoroutine" :=by simpa using hb.2
  simp[callFunc,hf,hname',hbody]
 refine⟨.enter f us,w,hcf,.inr (.inl ⟨_,_,rfl,?_⟩)⟩
 exact Steps.trans h1 (.one (step_leave_returned h2))
theorem Mp {f:Nat} {F:Entry} (hb:Zbs X.P (X.φ f)=true)
  (h:∀args st v st',F args st=some (v,st')→st'=st∧∀N us,VRs X N args us→∃u,VR X N v u∧∀w,Calls X.P (X.φ f) us.toArray w fun e w'=>e= .returned u∧Below w.heap.size w w'):Vp D X f F:=by
 intro args st v st' hF N w us hr hv c cs
 obtain⟨rfl,h1⟩:=h args st v st' hF
 obtain⟨u,hu,h2⟩:=h1 N us hv
 obtain⟨e,w',fr,⟨rfl,hbel⟩,hc,_,hl⟩:=h2 w (c::cs)
 exact⟨N,u,w',hu,⟨hr.hr.below hbel,hr.fresh⟩,Gd.below hbel,Nat.le_refl _,fun _ _=>rfl,Ik hb ⟨fr,hc,hl⟩⟩
end Go.Ev

/- strings.Repeat as an entry of the table. -/
namespace Go.Ev
open Go Go.RowKit
variable {X : Cx} {D : Mc} {T : Tab} {st : St}
theorem Rn {k:Nat} {F:Entry} (h:T.en k=some F) {first args cap:List AV}:call T (.fn k first cap) args st=F (first++args++cap) st:=by
 simp only[call,Jb,W1,h]
end Go.Ev

/- Functions of the library as entries of the table: what each answers, and how a contract or a plain run makes the entry. -/
namespace Go.Ev
open Go Go.RowKit
variable {X : Cx} {D : Mc} {T : Tab} {st : St}
theorem Zhn {f:Nat} {F:Entry} {fn:Func} {e:Array Value→Sem Value} (hf:X.P.funcs[X.φ f]? =some fn) (hname:(fn.name == "runtime.NumGoroutine")=false) (hb:fn.body.isNone=true)
  (hn:Extern.findNext fn=none) (he:Extern.find fn=some e)
  (h:∀args st v st',F args st=some (v,st')→st'=st∧∀N us,VRs X N args us→∃u,VR X N v u∧∀w,(e us.toArray).run X.P w= .ok u w):Vp D X f F:=by
 intro args st v st' hF N w us hr hv c cs
 obtain⟨rfl,h1⟩:=h args st v st' hF
 obtain⟨u,hu,h2⟩:=h1 N us hv
 have h3:=run_callFunc_extern hf hname hb hn he us.toArray w
 rw[h2 w]at h3
 exact⟨N,u,w,hu,hr,.refl _ _ _,Nat.le_refl _,fun _ _=>rfl,.value u,w,h3,.inl ⟨rfl,rfl⟩⟩
namespace B
def W5:Entry:=fun args st=>match args with
 | [.ptr n o]=>some (.ptr n o,st)
 | _=>none
def V5:Entry:=fun args st=>match args with
 | [.str s,.int .u8 c]=>some (.int .i64 (Lib.indexByte s c.toNat.toUInt8),st)
 | _=>none
def V6:Entry:=fun args st=>match args with
 | [.str s,.str [c]]=>some (.int .i64 (Lib.indexByte s c),st)
 | _=>none
def Aa:Nat:=4
def Zvk:AV→Option Int
 | .int .u64 n=>some n
 | _=>none
def Zoc (h:Heap):Bool:=h.any fun p=>match Zh h p.1 with
 | some (.Wz g cs)=>decide (g=Aa) && decide (cs.map Zvk=Lib.pow10Tab.map some)
 | _=>false
def Uo:Entry:=fun args st=>match args with
 | [.int .i64 n]=>if Zoc st.h=true∧-9223372036854775808≤n∧n≤9223372036854775807 then some (.str (Lib.itoa n),st)else none
 | _=>none
end B
theorem Zkj {f:Nat} {fn:Func} (hf:X.P.funcs[X.φ f]? =some fn) (hname:(fn.name == "runtime.NumGoroutine")=false) (hb:fn.body.isNone=true)
  (hn:Extern.findNext fn=none) (he:Extern.find fn=some Extern.AbiNoEscape.same):Vp D X f B.W5:=by
 refine Zhn hf hname hb hn he fun args st v st' hF=> ?_
 unfold B.W5 at hF
 split at hF
 case h_2=>cases hF
 cases hF
 refine⟨rfl,fun N us hus=> ?_⟩
 obtain⟨u0,us0,rfl,h0,rfl⟩:=hus
 exact⟨u0,h0,fun w=>rfl⟩
theorem Zhw {f:Nat} (hb:Zbs X.P (X.φ f)=true)
  (h:∀(s:ByteArray) (c:Int) (w:World),Calls X.P (X.φ f) #[.string s,.int .u8 c] w fun e w'=>e= .returned (.int .i64 (Lib.indexByte s.data.toList c.toNat.toUInt8))∧w'=w):Vp D X f B.V5:=by
 refine Mp hb fun args st v st' hF=> ?_
 unfold B.V5 at hF
 split at hF
 case h_2=>cases hF
 cases hF
 refine⟨rfl,fun N us hus=> ?_⟩
 obtain⟨u0,us0,rfl,h0,u1,us1,rfl,h1,rfl⟩:=hus
 cases h0
 cases h1
 refine⟨_,rfl,fun w=> ?_⟩
 refine(h ⟨_⟩ _ w).mono fun e w' ⟨h1,h2⟩=>⟨by simpa using h1,?_⟩
 subst h2
 exact Below.refl _ _
theorem Zof {f:Nat} (hb:Zbs X.P (X.φ f)=true)
  (h:∀(s:ByteArray) (c:UInt8) (w:World),Calls X.P (X.φ f) #[.string s,.string ⟨#[c]⟩] w fun e w'=>e= .returned (.int .i64 (Lib.indexByte s.data.toList c))∧w'=w):Vp D X f B.V6:=by
 refine Mp hb fun args st v st' hF=> ?_
 unfold B.V6 at hF
 split at hF
 case h_2=>cases hF
 cases hF
 refine⟨rfl,fun N us hus=> ?_⟩
 obtain⟨u0,us0,rfl,h0,u1,us1,rfl,h1,rfl⟩:=hus
 cases h0
 cases h1
 refine⟨_,rfl,fun w=> ?_⟩
 refine(h ⟨_⟩ _ w).mono fun e w' ⟨h1,h2⟩=>⟨by simpa using h1,?_⟩
 subst h2
 exact Below.refl _ _
theorem Zhm {f:Nat} {F:Entry} (hb:Zbs X.P (X.φ f)=true)
  (h:∀args st v st',F args st=some (v,st')→st'=st∧∀N us w,HR D X N st.h w→VRs X N args us→∃u,VR X N v u∧Calls X.P (X.φ f) us.toArray w fun e w'=>e= .returned u∧Below w.heap.size w w'):Vp D X f F:=by
 intro args st v st' hF N w us hr hv c cs
 obtain⟨rfl,h1⟩:=h args st v st' hF
 obtain⟨u,hu,h2⟩:=h1 N us w hr.hr hv
 obtain⟨e,w',fr,⟨rfl,hbel⟩,hc,_,hl⟩:=h2 (c::cs)
 exact⟨N,u,w',hu,⟨hr.hr.below hbel,hr.fresh⟩,Gd.below hbel,Nat.le_refl _,fun _ _=>rfl,Ik hb ⟨fr,hc,hl⟩⟩
theorem Zve {N:Nu}:∀{zs:List Int} {cs:List AV} {us:List Value},cs.map B.Zvk=zs.map some→VRs X N cs us→us=zs.map fun z=>Value.int .u64 z
 | [],[],us,_,h=>h
 | [],_::_,us,e,h=>by simp at e
 | _::_,[],us,e,h=>by simp at e
 | z::zs,c::cs,us,e,h=>by
   simp only[List.map_cons,List.cons.injEq]at e
   obtain⟨u,us,rfl,h0,h1⟩:=h
   have hc:c= .int .u64 z:=by
    have:=e.1
    unfold B.Zvk at this
    split at this
    ·cases this;rfl
    ·cases this
   subst hc
   cases h0
   rw[Zve e.2 h1];rfl
theorem Zv0 {h:Heap} {m:Nat} {cs:List AV} (hg:Zh h m=some (.Wz B.Aa cs)) (hc:cs.map B.Zvk=Lib.pow10Tab.map some):B.Zoc h=true:=by
 unfold B.Zoc
 rw[List.any_eq_true]
 exact⟨_,Zjv hg,by simp only[hg];simp[hc]⟩
theorem Zto {f:Nat} (hb:Zbs X.P (X.φ f)=true) (hname:X.P.globalNamed "internal/strconv.uint64pow10" =some (X.γ B.Aa))
  (h:∀(n:Int) (w:World), -9223372036854775808≤n→n≤9223372036854775807→Lib.TabIs X.P w "internal/strconv.uint64pow10" .u64 Lib.pow10Tab→Calls X.P (X.φ f) #[.int .i64 n] w fun e w'=>e= .returned (.string ⟨(Lib.itoa n).toArray⟩)∧Below w.heap.size w w'):Vp D X f B.Uo:=by
 refine Zhm hb fun args st v st' hF=> ?_
 unfold B.Uo at hF
 split at hF
 case h_2=>cases hF
 split at hF
 case isFalse=>cases hF
 rename_i hc
 cases hF
 refine⟨rfl,fun N us w hr hus=> ?_⟩
 obtain⟨u0,us0,rfl,h0,rfl⟩:=hus
 cases h0
 refine⟨_,rfl,h _ w hc.2.1 hc.2.2 ?_⟩
 have hp:=hc.1
 unfold B.Zoc at hp
 rw[List.any_eq_true]at hp
 obtain⟨p,_,hp⟩:=hp
 split at hp
 case h_2=>cases hp
 rename_i g cs hg
 simp only[Bool.and_eq_true,decide_eq_true_eq]at hp
 obtain⟨rfl,hcs⟩:=hp
 obtain⟨us,t,fz,_,hw,hv⟩:=hr.Um _ _ hg
 have:=Zve hcs hv
 unfold Lib.TabIs World.var?
 rw[hname]
 simp only[Option.bind_some,hw]
 rw[←this]
end Go.Ev

/- The abstract bodies of the functions, printed by a program of this work. -/
namespace Go.Ev.B
open Go
def Ny:Zv:=(.seq (.Zd [2,3,14,15]) (.seq (.Ze [p 16 (.bin .lss 15 (.k (.int .i64 3)))]) (.seq (.cond 16 .skip (.exit 0)) (.seq (.block 1 (.seq (.Ze [p 17 (.Zhv
 3 1 none 14 15),p 6 (.Za 17)]) (.seq (.Ze [p 19 (.Za 6),w 20 (.call 19 []),p 18 (.Za 20),p 21 (.Zq 0 18),p 22 (.Zq 1 18),w0 (.store 3 2 21),p 3 (.Za 22)]) (.seq (.Ze
 [p 23 (.Za 3),p 24 (.bin .neq 23 (.k (.int .i64 5)))]) (.cond 24 (.exit 0) .skip))))) (.seq (.Zd [2,3,14,15]) (.Ze [p 25 (.bin .add 15 (.k (.int .i64 1))),p 15 (.Za 25)]))))))
def Hk:Qa:=⟨1,[.cell 2 (some 3),.t 3],(.seq (.Ze [n 2 (.alloc 134 true [(.int .i64 0),(.int .i64 0),(.str [])]),p 3 (.Za (.k (.int .i64 0)))]) (.scope (.seq (.Ze
 [p 7 (.Za 0),p 4 (.Za 7)]) (.seq .skip (.seq (.seq (.Ze [p 8 (.Za 4),p 9 (.Pz 75 [8] []),p 10 (.Za 4),p 11 (.Pz 76 [10] []),p 12 (.Za 4),p 13 (.Pz 77 [12] []),p 14
 (.build [.Jx,.Jx,.Jx] [(0,1,9),(1,1,11),(2,1,13)]),p 15 (.Za (.k (.int .i64 0)))]) (.seq (.Zd [2,3,14,15]) (.block 0 (.loop Ny)))) (.seq (.Zd
 [2,3]) (.seq (.Ze [r 26 (.load (some 3) 2),p 27 (.Za 3),w0 (.store 3 2 26),p 3 (.Za 27)]) .ret)))))))⟩
def Tu:Zv:=(.seq (.Zd [0,2,7]) (.seq (.seq (.Ze [p 45 (.Za 7),p 46 (.bin .leq 45 (.k (.int .i64 2))),p 47 (.Za 46),pg 48 47 true (.Za 7),pg 49 47
 true (.Za 0),pg 50 47 true (.lenOf true 49),pg 51 47 true (.bin .lss 48 50),p 52 (.pick 47 51 (.k (.bool false)))]) (.cond 52 .skip (.exit 0))) (.seq (.Zd [0,2,7]) (.seq (.block
 1 (.seq (.Ze [p 55 (.Za 0),p 56 (.Za 7),p 57 (.B5 55 none (some 56)),w 58 (.call (.k (.fn 78 [] [])) [57,(.k (.int .i64 10))]),p 8 (.Za 58)]) (.seq (.Ze [p 59 (.Za 0),
 p 60 (.Za 7),p 61 (.J7 59 60),p 62 (.bin .eql 61 (.k (.int .u8 35))),p 63 (.Za 62),pg 64 63 true (.Za 8),pg 65 63 true (.bin .geq 64 (.k (.int .i64 2))),p 66 (.pick 63 65
 (.k (.bool false))),p 67 (.Za 66),pg 68 67 true (.Za 8),pg 69 67 true (.bin .leq 68 (.k (.int .i64 36))),p 70 (.pick 67 69 (.k (.bool false))),p 71 (.Za 70),pg 72 71 true (.Za
 0),pg 73 71 true (.Za 7),pg 74 71 true (.bin .add 73 (.k (.int .i64 1))),pg 75 71 true (.B5 72 (some 74) none),pg 76 71 true (.Za 8),wg 77 71 true (.call (.k (.fn 78 [] []))
 [75,76]),pg 78 71 true (.bin .geq 77 (.k (.int .i64 0))),p 79 (.pick 71 78 (.k (.bool false)))]) (.seq (.Zd [0,2,7,8,79]) (.cond 79 (.seq (.Ze [p 80 (.Za 0),p 81 (.Za 7),
 p 82 (.bin .add 81 (.k (.int .i64 1))),p 83 (.B5 80 (some 82) none),p 84 (.Za 8),w 85 (.call (.k (.fn 78 [] [])) [83,84]),p 86 (.Za 0),p 87 (.lenOf true 86),w 88 (.call (.k
 (.fn 79 [] [])) [85,87]),p 89 (.Zq 0 88),p 90 (.Zq 1 88),w0 (.store 3 2 89),p 3 (.Za 90)]) .ret) .skip))))) (.seq (.Zd [0,2,7]) (.Ze [p 53 (.Za 7),p 54 (.bin .add 53
 (.k (.int .i64 1))),p 7 (.Za 54)]))))))
def Zdm:Qa:=⟨1,[.cell 2 (some 3),.t 3],(.seq (.Ze [n 2 (.alloc 134 true [(.int .i64 0),(.int .i64 0),(.str [])]),p 3 (.Za (.k (.int .i64 0)))]) (.seq (.Ze
 [p 15 (.Za 0),p 4 (.Za 15),p 5 (.Za (.k (.int .i64 1)))]) (.seq (.seq (.Ze [p 16 (.Za 0),p 17 (.bin .neq 16 (.k (.str []))),p 18 (.Za 17),pg 19 18 true (.Za 0),pg 20 18
 true (.J7 19 (.k (.int .i64 0))),pg 21 18 true (.bin .eql 20 (.k (.int .u8 45))),pg 22 18 true (.Za 21),pg 23 22 false (.Za 0),pg 24 22 false (.J7 23 (.k (.int .i64 0))),
 pg 25 22 false (.bin .eql 24 (.k (.int .u8 43))),pg 26 18 true (.pick 22 (.k (.bool true)) 25),p 27 (.pick 18 26 (.k (.bool false)))]) (.seq (.Zd [0,2,4,5,27]) (.cond 27 (.seq
 (.Ze [p 28 (.Za 0),p 29 (.B5 28 (some (.k (.int .i64 1))) none),p 4 (.Za 29)]) (.seq (.Ze [p 30 (.Za 0),p 31 (.J7 30 (.k (.int .i64 0))),p 32 (.bin .eql 31 (.k (.int .u8
 45)))]) (.cond 32 (.Ze [p 5 (.Za (.k (.int .i64 (-1))))]) .skip))) .skip))) (.seq (.Zd [0,2,4,5]) (.seq (.seq (.Ze [p 33 (.Za 4),w 34 (.call (.k (.fn 78 [] [])) [33,(.k (.int
 .i64 10))]),p 6 (.Za 34)]) (.seq (.Ze [p 35 (.Za 6),p 36 (.bin .geq 35 (.k (.int .i64 0)))]) (.cond 36 (.seq (.Ze [p 37 (.Za 5),p 38 (.Za 6),p 39 (.bin .mul 37 38),p 40 (.Za
 0),p 41 (.lenOf true 40),w 42 (.call (.k (.fn 79 [] [])) [39,41]),p 43 (.Zq 0 42),p 44 (.Zq 1 42),w0 (.store 3 2 43),p 3 (.Za 44)]) .ret) .skip))) (.seq (.Zd [0,2]) (.seq
 (.seq (.Ze [p 7 (.Za (.k (.int .i64 1)))]) (.block 0 (.loop Tu))) (.seq (.Zd [0,2]) (.seq (.Ze [p 92 (.Za 0),w 93 (.call (.k (.fn 80 [] [])) [92]),p 91 (.Za
 93),p 94 (.Zq 0 91),p 95 (.Zq 1 91),p 96 (.Zq 2 91),p 97 (.Zq 3 91),p 9 (.Za 94),p 10 (.Za 95),p 11 (.Za 96),p 12 (.Za 97)]) (.seq (.Zd [0,2,12]) (.seq (.seq
 (.Ze [p 98 (.Za 12),p 99 (.un .not 98)]) (.cond 99 (.seq (.Ze [p 100 (.build [(.int .i64 0),(.int .i64 0),(.str [])] []),w0 (.store 3 2 100),p 3 (.Za (.k (.int .i64 5)))])
 .ret) .skip)) (.seq (.Ze [p 102 (.Za 0),w 103 (.call (.k (.fn 81 [] [])) [102]),p 101 (.Za 103),p 104 (.Zq 0 101),p 105 (.Zq 1 101),p 13 (.Za 104),p 14 (.Za 105)]) (.seq
 (.seq (.Ze [p 106 (.Za 14),p 107 (.bin .neq 106 (.k (.int .i64 0)))]) (.cond 107 (.seq (.Ze [p 108 (.build [(.int .i64 0),(.int .i64 0),(.str [])] []),w0 (.store 3 2 108),p
 3 (.Za (.k (.int .i64 26)))]) .ret) .skip)) (.seq (.Ze [p 109 (.Za 13),p 110 (.build [(.int .i64 0),(.int .i64 0),(.str [])] [(0,1,(.k (.int .i64 2))),(1,1,109)]),w0 (.store
 3 2 110),p 3 (.Za (.k (.int .i64 0)))]) .ret))))))))))))))⟩
def Vt:Qa:=⟨1,[.cell 2 (some 3),.t 3],(.seq (.Ze [n 2 (.alloc 134 true [(.int .i64 0),(.int .i64 0),(.str [])]),p 3 (.Za (.k (.int .i64 0)))]) (.seq (.Ze
 [p 8 (.Za 0),p 4 (.Za 8),p 5 (.Za (.k (.int .i64 1)))]) (.seq (.seq (.Ze [p 9 (.Za 4),w 10 (.call (.k (.fn 94 [] [])) [9,(.k (.str [45]))])]) (.cond 10 (.Ze [p 5 (.Za (.k
 (.int .i64 (-1))))]) .skip)) (.seq (.seq (.Ze [p 11 (.Za 4),p 12 (.bin .neq 11 (.k (.str []))),p 13 (.Za 12),pg 14 13 true (.Za 4),pg 15 13 true (.J7 14 (.k (.int .i64 0))),
 pg 16 13 true (.bin .eql 15 (.k (.int .u8 45))),pg 17 13 true (.Za 16),pg 18 17 false (.Za 4),pg 19 17 false (.J7 18 (.k (.int .i64 0))),pg 20 17 false (.bin .eql 19 (.k (.int
 .u8 43))),pg 21 13 true (.pick 17 (.k (.bool true)) 20),p 22 (.pick 13 21 (.k (.bool false)))]) (.seq (.Zd [0,2,4,5,22]) (.cond 22 (.Ze [p 23 (.Za 4),p 24 (.B5 23 (some
 (.k (.int .i64 1))) none),p 4 (.Za 24)]) .skip))) (.seq (.Zd [0,2,4,5]) (.seq (.Ze [p 26 (.Za 4),w 27 (.call (.k (.fn 95 [] [])) [26,(.k (.int .i64 10))]),p 25 (.Za 27),
 p 28 (.Zq 0 25),p 29 (.Zq 1 25),p 6 (.Za 28),p 7 (.Za 29)]) (.seq (.seq (.Ze [p 30 (.Za 7),p 31 (.un .not 30)]) (.cond 31 (.seq (.Ze [p 32 (.build [(.int .i64 0),(.int
 .i64 0),(.str [])] []),w0 (.store 3 2 32),p 3 (.Za (.k (.int .i64 5)))]) .ret) .skip)) (.seq (.Ze [p 33 (.Za 0),p 34 (.Za 5),p 35 (.Za 6),p 36 (.bin .mul 34 35),w 37 (.call
 (.k (.fn 96 [] [])) [33,36]),p 38 (.Zq 0 37),p 39 (.Zq 1 37),w0 (.store 3 2 38),p 3 (.Za 39)]) .ret))))))))⟩
def Vs:Qa:=⟨1,[.cell 2 (some 3),.t 3],(.seq (.Ze [n 2 (.alloc 134 true [(.int .i64 0),(.int .i64 0),(.str [])]),p 3 (.Za (.k (.int .i64 0)))]) (.seq (.Ze
 [p 11 (.Za 0),w 12 (.call (.k (.fn 97 [] [])) [11,(.k (.str [35]))]),p 10 (.Za 12),p 13 (.Zq 0 10),p 14 (.Zq 1 10),p 15 (.Zq 2 10),p 4 (.Za 13),p 5 (.Za 14),p 6 (.Za
 15)]) (.seq (.Zd [0,2,4,5,6]) (.seq (.Ze [p 17 (.Za 4),w 18 (.call (.k (.fn 95 [] [])) [17,(.k (.int .i64 10))]),p 16 (.Za 18),p 19 (.Zq 0 16),p 20 (.Zq 1 16),p 7
 (.Za 19),p 8 (.Za 20)]) (.seq (.seq (.Ze [p 21 (.Za 6),p 22 (.un .not 21),p 23 (.Za 22),pg 24 23 false (.Za 8),pg 25 23 false (.un .not 24),p 26 (.pick 23 (.k (.bool true))
 25),p 27 (.Za 26),pg 28 27 false (.Za 4),pg 29 27 false (.lenOf true 28),pg 30 27 false (.bin .gtr 29 (.k (.int .i64 2))),p 31 (.pick 27 (.k (.bool true)) 30),p 32 (.Za 31),
 pg 33 32 false (.Za 7),pg 34 32 false (.bin .lss 33 (.k (.int .i64 2))),p 35 (.pick 32 (.k (.bool true)) 34),p 36 (.Za 35),pg 37 36 false (.Za 7),pg 38 36 false (.bin .gtr 37
 (.k (.int .i64 36))),p 39 (.pick 36 (.k (.bool true)) 38)]) (.seq (.Zd [0,2,5,7,39]) (.cond 39 (.seq (.Ze [p 40 (.build [(.int .i64 0),(.int .i64 0),(.str [])] []),w0 (.store
 3 2 40),p 3 (.Za (.k (.int .i64 5)))]) .ret) .skip))) (.seq (.Zd [0,2,5,7]) (.seq (.Ze [p 42 (.Za 5),p 43 (.Za 7),w 44 (.call (.k (.fn 95 [] [])) [42,43]),p 41 (.Za 44),
 p 45 (.Zq 0 41),p 46 (.Zq 1 41),p 9 (.Za 45),p 8 (.Za 46)]) (.seq (.Zd [0,2,8,9]) (.seq (.seq (.Ze [p 47 (.Za 8),p 48 (.un .not 47)]) (.cond 48 (.seq (.Ze [p 49 (.build
 [(.int .i64 0),(.int .i64 0),(.str [])] []),w0 (.store 3 2 49),p 3 (.Za (.k (.int .i64 5)))]) .ret) .skip)) (.seq (.Ze [p 50 (.Za 0),p 51 (.Za 9),w 52 (.call (.k (.fn 96 []
 [])) [50,51]),p 53 (.Zq 0 52),p 54 (.Zq 1 52),w0 (.store 3 2 53),p 3 (.Za 54)]) .ret))))))))))⟩
def Yr:Qa:=⟨1,[.cell 2 (some 3),.t 3],(.seq (.Ze [n 2 (.alloc 134 true [(.int .i64 0),(.int .i64 0),(.str [])]),p 3 (.Za (.k (.int .i64 0)))]) (.seq (.seq
 (.Ze [p 6 (.Za 0),w 7 (.call (.k (.fn 98 [] [])) [6,(.k (.str [46,101,69]))]),p 8 (.un .not 7),p 9 (.Za 8),pg 10 9 false (.Za 0),wg 11 9 false (.call (.k (.fn 99 [] []))
 [10]),pg 12 9 false (.un .not 11),p 13 (.pick 9 (.k (.bool true)) 12)]) (.seq (.Zd [0,2,13]) (.cond 13 (.seq (.Ze [p 14 (.build [(.int .i64 0),(.int .i64 0),(.str [])] []),
 w0 (.store 3 2 14),p 3 (.Za (.k (.int .i64 5)))]) .ret) .skip))) (.seq (.Zd [0,2]) (.seq (.Ze [p 16 (.Za 0),w 17 (.call (.k (.fn 100 [] [])) [16]),p 15 (.Za 17),p 18 (.Zq
 0 15),p 19 (.Zq 1 15),p 4 (.Za 18),p 5 (.Za 19)]) (.seq (.seq (.Ze [p 20 (.Za 5),p 21 (.bin .neq 20 (.k (.int .i64 0)))]) (.cond 21 (.seq (.Ze [p 22 (.build [(.int .i64 0),
 (.int .i64 0),(.str [])] []),w0 (.store 3 2 22),p 3 (.Za (.k (.int .i64 26)))]) .ret) .skip)) (.seq (.Ze [p 23 (.Za 4),p 24 (.build [(.int .i64 0),(.int .i64 0),(.str [])]
 [(0,1,(.k (.int .i64 2))),(1,1,23)]),w0 (.store 3 2 24),p 3 (.Za (.k (.int .i64 0)))]) .ret))))))⟩
def Zcf:Zv:=(.seq (.Zd [0,6,7,8,9,10]) (.seq (.seq (.Ze [p 35 (.Za 6),p 36 (.Za 0),p 37 (.lenOf true 36),p 38 (.bin .lss 35 37),p 39 (.Za 38),pg
 40 39 true (.Za 0),pg 41 39 true (.Za 6),pg 42 39 true (.J7 40 41),wg 43 39 true (.call (.k (.fn 102 [] [])) [42]),pg 44 39 true (.Za 43),pg 45 44 false (.Za 0),pg 46 44
 false (.Za 6),pg 47 44 false (.J7 45 46),pg 48 44 false (.bin .eql 47 (.k (.int .u8 46))),pg 49 44 false (.Za 48),pg 50 49 true (.Za 10),pg 51 49 true (.un .not 50),pg 52
 44 false (.pick 49 51 (.k (.bool false))),pg 53 39 true (.pick 44 (.k (.bool true)) 52),p 54 (.pick 39 53 (.k (.bool false)))]) (.cond 54 .skip (.exit 0))) (.seq (.Zd [0,6,7,
 8,9,10]) (.block 1 (.seq (.seq (.Ze [p 55 (.Za 0),p 56 (.Za 6),p 57 (.J7 55 56),p 58 (.bin .eql 57 (.k (.int .u8 46)))]) (.cond 58 (.Ze [p 10 (.Za (.k (.bool true)))]) (.seq
 (.Ze [p 59 (.Za 8),p 60 (.Za 0),p 61 (.Za 6),p 62 (.J7 60 61),p 63 (.bin .sub 62 (.k (.int .u8 48))),p 64 (.conv .i64 63),n 65 (.Qe 3 1 [(.int .i64 0)] [(0,1,64)]),
 w 66 (.append 3 1 8 [(.int .i64 0)] 59 65),p 8 (.Za 66)]) (.seq (.Zd [0,6,7,8,9,10]) (.seq (.Ze [p 67 (.Za 10)]) (.cond 67 (.Ze [p 68 (.Za 9),p 69 (.bin .sub 68 (.k (.int
 .i64 1))),p 9 (.Za 69)]) .skip)))))) (.seq (.Zd [0,6,7,8,9,10]) (.Ze [p 70 (.Za 6),p 71 (.bin .add 70 (.k (.int .i64 1))),p 6 (.Za 71)])))))))
def Zcg:Zv:=(.seq (.Zd [0,6,7,8,9,11,12]) (.seq (.seq (.Ze [p 128 (.Za 6),p 129 (.Za 0),p 130 (.lenOf true 129),p 131 (.bin .lss 128 130)]) (.cond
 131 .skip (.exit 2))) (.block 3 (.seq (.seq (.Ze [p 132 (.Za 0),p 133 (.Za 6),p 134 (.J7 132 133),w 135 (.call (.k (.fn 102 [] [])) [134]),p 136 (.un .not 135)]) (.cond 136
 (.seq (.Ze [p 2 (.Za (.k (.int .i64 0))),p 3 (.Za (.k .Zc)),p 4 (.Za (.k (.int .i64 0))),p 5 (.Za (.k (.bool false)))]) .ret) .skip)) (.seq (.Zd [0,6,7,8,9,11,
 12]) (.seq (.Ze [p 137 (.Za 12),p 138 (.bin .mul (.k (.int .i64 10)) 137),p 139 (.Za 0),p 140 (.Za 6),p 141 (.J7 139 140),p 142 (.bin .sub 141 (.k (.int .u8 48))),p 143
 (.conv .i64 142),p 144 (.bin .add 138 143),p 12 (.Za 144)]) (.seq (.Zd [0,6,7,8,9,11,12]) (.Ze [p 145 (.Za 6),p 146 (.bin .add 145 (.k (.int .i64 1))),p 6 (.Za 146)]))))))))
def Zhk:Qa:=⟨1,[.t 2,.t 3,.t 4,.t 5],(.seq (.Ze [p 2 (.Za (.k (.int .i64 0))),p 3 (.Za (.k .Zc)),p 4 (.Za (.k (.int .i64 0))),p 5 (.Za (.k (.bool
 false)))]) (.seq (.Ze [p 6 (.Za (.k (.int .i64 0))),p 7 (.Za (.k (.int .i64 1)))]) (.seq (.seq (.Ze [p 13 (.Za 6),p 14 (.Za 0),p 15 (.lenOf true 14),p 16 (.bin .lss 13 15),
 p 17 (.Za 16),pg 18 17 true (.Za 0),pg 19 17 true (.Za 6),pg 20 17 true (.J7 18 19),pg 21 17 true (.bin .eql 20 (.k (.int .u8 43))),pg 22 17 true (.Za 21),pg 23 22 false
 (.Za 0),pg 24 22 false (.Za 6),pg 25 22 false (.J7 23 24),pg 26 22 false (.bin .eql 25 (.k (.int .u8 45))),pg 27 17 true (.pick 22 (.k (.bool true)) 26),p 28 (.pick 17 27 (.k
 (.bool false)))]) (.seq (.Zd [0,6,7,28]) (.cond 28 (.seq (.seq (.Ze [p 29 (.Za 0),p 30 (.Za 6),p 31 (.J7 29 30),p 32 (.bin .eql 31 (.k (.int .u8 45)))]) (.cond 32 (.Ze
 [p 7 (.Za (.k (.int .i64 (-1))))]) .skip)) (.Ze [p 33 (.Za 6),p 34 (.bin .add 33 (.k (.int .i64 1))),p 6 (.Za 34)])) .skip))) (.seq (.Zd [0,6,7]) (.seq (.Ze [p 8 (.Za (.k
 .Zc))]) (.seq (.Ze [p 9 (.Za (.k (.int .i64 0))),p 10 (.Za (.k (.bool false)))]) (.seq (.block 0 (.loop Zcf)) (.seq (.Zd [0,6,7,8,9]) (.seq (.seq (.Ze
 [p 72 (.Za 8),p 73 (.lenOf false 72),p 74 (.bin .eql 73 (.k (.int .i64 0)))]) (.cond 74 (.seq (.Ze [p 2 (.Za (.k (.int .i64 0))),p 3 (.Za (.k .Zc)),p 4 (.Za (.k (.int
 .i64 0))),p 5 (.Za (.k (.bool false)))]) .ret) .skip)) (.seq (.seq (.Ze [p 75 (.Za 6),p 76 (.Za 0),p 77 (.lenOf true 76),p 78 (.bin .eql 75 77)]) (.cond 78 (.seq (.Ze [p 79
 (.Za 7),p 80 (.Za 8),p 81 (.Za 9),p 2 (.Za 79),p 3 (.Za 80),p 4 (.Za 81),p 5 (.Za (.k (.bool true)))]) .ret) .skip)) (.seq (.Zd [0,6,7,8,9]) (.seq (.seq (.Ze [p
 82 (.Za 0),p 83 (.Za 6),p 84 (.J7 82 83),p 85 (.bin .neq 84 (.k (.int .u8 101))),p 86 (.Za 85),pg 87 86 true (.Za 0),pg 88 86 true (.Za 6),pg 89 86 true (.J7 87 88),
 pg 90 86 true (.bin .neq 89 (.k (.int .u8 69))),p 91 (.pick 86 90 (.k (.bool false)))]) (.seq (.Zd [0,6,7,8,9,91]) (.cond 91 (.seq (.Ze [p 2 (.Za (.k (.int .i64 0))),p 3
 (.Za (.k .Zc)),p 4 (.Za (.k (.int .i64 0))),p 5 (.Za (.k (.bool false)))]) .ret) .skip))) (.seq (.Zd [0,6,7,8,9]) (.seq (.Ze [p 92 (.Za 6),p 93 (.bin .add 92 (.k
 (.int .i64 1))),p 6 (.Za 93)]) (.seq (.Ze [p 11 (.Za (.k (.bool false)))]) (.seq (.seq (.Ze [p 94 (.Za 6),p 95 (.Za 0),p 96 (.lenOf true 95),p 97 (.bin .lss 94 96),p 98 (.Za
 97),pg 99 98 true (.Za 0),pg 100 98 true (.Za 6),pg 101 98 true (.J7 99 100),pg 102 98 true (.bin .eql 101 (.k (.int .u8 43))),pg 103 98 true (.Za 102),pg 104 103 false (.Za
 0),pg 105 103 false (.Za 6),pg 106 103 false (.J7 104 105),pg 107 103 false (.bin .eql 106 (.k (.int .u8 45))),pg 108 98 true (.pick 103 (.k (.bool true)) 107),p 109 (.pick
 98 108 (.k (.bool false)))]) (.seq (.Zd [0,6,7,8,9,11,109]) (.cond 109 (.seq (.Ze [p 110 (.Za 0),p 111 (.Za 6),p 112 (.J7 110 111),p 113 (.bin .eql 112 (.k (.int .u8
 45))),p 11 (.Za 113)]) (.Ze [p 114 (.Za 6),p 115 (.bin .add 114 (.k (.int .i64 1))),p 6 (.Za 115)])) .skip))) (.seq (.Zd [0,6,7,8,9,11]) (.seq (.seq (.Ze [p 116 (.Za
 0),p 117 (.lenOf true 116),p 118 (.Za 6),p 119 (.bin .sub 117 118),p 120 (.bin .lss 119 (.k (.int .i64 1))),p 121 (.Za 120),pg 122 121 false (.Za 0),pg 123 121 false (.lenOf
 true 122),pg 124 121 false (.Za 6),pg 125 121 false (.bin .sub 123 124),pg 126 121 false (.bin .gtr 125 (.k (.int .i64 3))),p 127 (.pick 121 (.k (.bool true)) 126)]) (.seq (.Zd
 [0,6,7,8,9,11,127]) (.cond 127 (.seq (.Ze [p 2 (.Za (.k (.int .i64 0))),p 3 (.Za (.k .Zc)),p 4 (.Za (.k (.int .i64 0))),p 5 (.Za (.k (.bool false)))]) .ret) .skip)))
 (.seq (.Zd [0,6,7,8,9,11]) (.seq (.Ze [p 12 (.Za (.k (.int .i64 0)))]) (.seq (.block 2 (.loop Zcg)) (.seq (.Zd [7,8,9,11,12]) (.seq (.seq (.Ze [p 147
 (.Za 11)]) (.cond 147 (.Ze [p 148 (.Za 12),p 149 (.un .neg 148),p 12 (.Za 149)]) .skip)) (.seq (.Ze [p 150 (.Za 7),p 151 (.Za 8),p 152 (.Za 9),p 153 (.Za 12),p 154 (.bin
 .add 152 153),p 2 (.Za 150),p 3 (.Za 151),p 4 (.Za 154),p 5 (.Za (.k (.bool true)))]) .ret))))))))))))))))))))))))⟩
def Ql:Qa:=⟨2,[.t 4],(.seq (.Ze [p 4 (.Za (.k .K6))]) (.seq (.Ze [p 5 (.Za 0),w 6 (.call (.k (.fn 109 [] [])) [5])]) (.seq (.Ze [p 7 (.Za
 0),p 8 (.Za 0),p 9 (.Xd 8),p 10 (.Zi 1 9),r 11 (.load none 10),p 12 (.Za 1),n 13 (.Qe 5 1 [(.int .u8 0)] [(0,1,12)]),w 14 (.append 5 1 1 [(.int .u8 0)] 11 13),
 p 15 (.Xd 7),p 16 (.Zi 1 15),w0 (.store 1 16 14)]) (.seq (.Zd []) (.seq (.Ze [p 4 (.Za (.k .K6))]) .ret)))))⟩
def Km:Qa:=⟨1,[.t 2],(.seq (.Ze [p 2 (.Za (.k (.str [])))]) (.seq (.Kv [.op 0 (p 3 (.Za 0)),.op 1 (p 4 (.Xd 3)),.op 2 (p 5 (.Zi 1 4)),.op 3
 (r 6 (.load none 5)),.op 5 (p 8 (.Za 0)),.op 6 (p 9 (.Xd 8)),.op 7 (p 10 (.Zi 1 9)),.op 8 (r 11 (.load none 10)),.op 4 (p 7 (.Zc2 6)),.op 9 (p 12 (.lenOf false 11)),
 .op 10 (w 13 (.Zmh 5 7 12)),.op 11 (p 2 (.Za 13))]) .ret))⟩
def strings_HasPrefix:Qa:=⟨2,[.t 4],(.seq (.Ze [p 4 (.Za (.k (.bool false)))]) (.seq (.Ze [p 5 (.Za 0),p 6 (.Za 1),w 7 (.call (.k (.fn 123 [] [])) [5,6]),p 4 (.Za
 7)]) .ret))⟩
def Yo:Zv:=(.block 1 (.seq (.seq (.Ze [p 12 (.Za 7),p 13 (.bin .lss 12 (.k (.int .i64 0)))]) (.cond 13 (.seq (.Ze [w0 (.store 1 4 (.k (.int .i64 0))),w0 (.store
 1 5 (.k (.bool false)))]) .ret) .skip)) (.Ze [r 14 (.load none 6),r 15 (.load none 3),p 16 (.bin .mul 14 15),p 17 (.Za 7),p 18 (.bin .add 16 17),p 19 (.Bl false [18,(.k
 (.int .i64 1099511627776))]),w0 (.store 1 6 19)])))
def M5:Qa:=⟨2,[.cell 4 none,.cell 5 none],(.seq (.Ze [n 3 (.box 3 true 1),n 4 (.alloc 3 true [(.int .i64 0)]),n 5 (.alloc 4 true [(.bool false)])]) (.seq (.Ze [n
 6 (.alloc 3 true [(.int .i64 0)]),w0 (.store 1 6 (.k (.int .i64 0)))]) (.seq (.seq (.Ze [p 8 (.Za 0),r 9 (.load none 3),w 10 (.call (.k (.fn 112 [] [])) [8,9])]) (.block 0 (.rangeFunc
 10 [11] (.Ze [p 7 (.Za 11)]) Yo))) (.seq (.Zd [0,4,5,6]) (.seq (.Ze [r 20 (.load none 6),p 21 (.Za 0),p 22 (.bin .neq 21 (.k (.str []))),w0 (.store 1 4 20),w0
 (.store 1 5 22)]) .ret)))))⟩
def Jd:Qa:=⟨2,[.cell 4 (some 3),.t 5],(.seq (.Ze [n 4 (.alloc 134 true [(.int .i64 0),(.int .i64 0),(.str [])]),p 5 (.Za (.k (.int .i64 0)))]) (.seq (.seq
 (.Ze [p 6 (.Za 0),p 7 (.lenOf true 6),p 8 (.bin .gtr 7 (.k (.int .i64 40))),p 9 (.Za 8),pg 10 9 false (.Za 1),pg 11 9 false (.bin .lss 10 (.k (.int .i64 (-2147483648)))),p
 12 (.pick 9 (.k (.bool true)) 11),p 13 (.Za 12),pg 14 13 false (.Za 1),pg 15 13 false (.bin .gtr 14 (.k (.int .i64 2147483647))),p 16 (.pick 13 (.k (.bool true)) 15)]) (.seq (.Zd
 [1,4,16]) (.cond 16 (.seq (.Ze [p 17 (.build [(.int .i64 0),(.int .i64 0),(.str [])] []),w0 (.store 3 4 17),p 5 (.Za (.k (.int .i64 26)))]) .ret) .skip))) (.seq (.Zd [1,4])
 (.seq (.Ze [p 18 (.Za 1),p 19 (.build [(.int .i64 0),(.int .i64 0),(.str [])] [(0,1,(.k (.int .i64 1))),(1,1,18)]),w0 (.store 3 4 19),p 5 (.Za (.k (.int .i64 0)))]) .ret))))⟩
def strings_Cut:Qa:=⟨2,[.t 4,.t 5,.t 6],(.seq (.Ze [p 4 (.Za (.k (.str []))),p 5 (.Za (.k (.str []))),p 6 (.Za (.k (.bool false)))]) (.seq (.Ze [p 7 (.Za 0),p 8 (.Za
 1),w 9 (.call (.k (.fn 140 [] [])) [7,8]),p 10 (.Zq 0 9),p 11 (.Zq 1 9),p 12 (.Zq 2 9),p 4 (.Za 10),p 5 (.Za 11),p 6 (.Za 12)]) .ret))⟩
def strings_ContainsAny:Qa:=⟨2,[.t 4],(.seq (.Ze [p 4 (.Za (.k (.bool false)))]) (.seq (.Ze [p 5 (.Za 0),p 6 (.Za 1),w 7 (.call (.k (.fn 141 [] [])) [5,6]),p 8 (.bin
 .geq 7 (.k (.int .i64 0))),p 4 (.Za 8)]) .ret))⟩
def Qj:Zv:=(.seq (.Zd [0,3,4,10,11]) (.seq (.Ze [p 12 (.bin .lss 11 10)]) (.seq (.cond 12 .skip (.exit 0)) (.seq (.block 1 (.seq (.Ze [p 13 (.Za 11),p 5
 (.Za 13)]) (.seq (.seq (.Ze [p 14 (.Za 0),p 15 (.Za 5),p 16 (.J7 14 15),p 17 (.bin .eql 16 (.k (.int .u8 101))),p 18 (.Za 17),pg 19 18 false (.Za 0),pg 20 18 false (.Za
 5),pg 21 18 false (.J7 19 20),pg 22 18 false (.bin .eql 21 (.k (.int .u8 69))),p 23 (.pick 18 (.k (.bool true)) 22)]) (.seq (.Zd [0,3,4,5,10,11,23]) (.cond 23 (.Ze [p
 4 (.Za (.k (.bool false)))]) .skip))) (.seq (.Zd [0,3,4,5,10,11]) (.seq (.Ze [p 24 (.Za 0),p 25 (.Za 5),p 26 (.J7 24 25),p 27 (.bin .geq 26 (.k (.int .u8 48))),p 28
 (.Za 27),pg 29 28 true (.Za 0),pg 30 28 true (.Za 5),pg 31 28 true (.J7 29 30),pg 32 28 true (.bin .leq 31 (.k (.int .u8 57))),p 33 (.pick 28 32 (.k (.bool false))),p 6 (.Za
 33)]) (.seq (.Zd [0,3,4,5,6,10,11]) (.seq (.seq (.Ze [p 34 (.Za 4),p 35 (.Za 34),pg 36 35 true (.Za 6),p 37 (.pick 35 36 (.k (.bool false))),p 38 (.Za 37),pg 39 38
 true (.Za 5),pg 40 38 true (.bin .gtr 39 (.k (.int .i64 0))),p 41 (.pick 38 40 (.k (.bool false))),p 42 (.Za 41),pg 43 42 true (.Za 0),pg 44 42 true (.Za 5),pg 45 42 true
 (.bin .sub 44 (.k (.int .i64 1))),pg 46 42 true (.J7 43 45),pg 47 42 true (.bin .geq 46 (.k (.int .u8 48))),p 48 (.pick 42 47 (.k (.bool false))),p 49 (.Za 48),pg 50 49 true
 (.Za 0),pg 51 49 true (.Za 5),pg 52 49 true (.bin .sub 51 (.k (.int .i64 1))),pg 53 49 true (.J7 50 52),pg 54 49 true (.bin .leq 53 (.k (.int .u8 57))),p 55 (.pick 49 54 (.k
 (.bool false)))]) (.cond 55 (.exit 1) .skip)) (.seq (.Zd [0,3,4,5,10,11]) (.seq (.seq (.Ze [p 56 (.Za 3),p 57 (.lenOf true 56),p 58 (.bin .gtr 57 (.k (.int .i64 40)))]) (.cond
 58 (.seq (.Ze [p 2 (.Za (.k (.bool false)))]) .ret) .skip)) (.Ze [p 59 (.Za 3),p 60 (.Za 0),p 61 (.Za 5),p 62 (.Za 5),p 63 (.bin .add 62 (.k (.int .i64 1))),p 64 (.B5
 60 (some 61) (some 63)),p 65 (.bin .add 59 64),p 3 (.Za 65)])))))))))) (.seq (.Zd [0,3,4,10,11]) (.Ze [p 66 (.bin .add 11 (.k (.int .i64 1))),p 11 (.Za 66)]))))))
def Rz:Qa:=⟨1,[.t 2],(.seq (.Ze [p 2 (.Za (.k (.bool false)))]) (.seq (.Ze [p 3 (.Za (.k (.str []))),p 4 (.Za (.k (.bool true)))]) (.seq (.seq (.Ze [p 9 (.Za
 0),p 10 (.lenOf true 9),p 11 (.Za (.k (.int .i64 0)))]) (.block 0 (.loop Qj))) (.seq (.Zd [3]) (.seq (.Ze [p 68 (.Za 3),w 69 (.call (.k (.fn 100 [] [])) [68]),p
 67 (.Za 69),p 70 (.Zq 0 67),p 71 (.Zq 1 67),p 7 (.Za 70),p 8 (.Za 71)]) (.seq (.Ze [p 72 (.Za 8),p 73 (.bin .eql 72 (.k (.int .i64 0))),p 74 (.Za 73),pg 75 74 false
 (.Za 8),pg 76 74 false (.bin .eql 75 (.k (.int .i64 6))),p 77 (.pick 74 (.k (.bool true)) 76),p 2 (.Za 77)]) .ret))))))⟩
def H9:Zv:=(.seq (.Zd [5,9,10,39]) (.seq (.Ze [p 40 (.bin .lss 39 (.k (.int .i64 16)))]) (.seq (.cond 40 .skip (.exit 0)) (.seq (.block 1 (.Ze [p 41 (.Za 9),
 p 42 (.bin .mul (.k (.int .i64 2)) 41),p 43 (.Za 10),w 44 (.call (.k (.fn 116 [] [])) [43]),p 45 (.bin .add 42 44),p 9 (.Za 45)])) (.Ze [p 46 (.bin .add 39 (.k (.int .i64 1))),
 p 39 (.Za 46)])))))
def Nz:Zv:=(.seq (.Zd [5,9,11,12,50,51,52]) (.seq (.Ze [p 53 (.bin .lss 52 51)]) (.seq (.cond 53 .skip (.exit 2)) (.seq (.block 3 (.seq (.Ze [p 54 (.Zu
 1 50 52),r 55 (.load none 54),p 14 (.Za 55)]) (.Ze [p 56 (.Za 12),p 57 (.Za 56),pg 58 57 false (.Za 14),pg 59 57 false (.bin .neq 58 (.k (.int .u8 0))),p 60 (.pick 57 (.k
 (.bool true)) 59),p 12 (.Za 60)]))) (.seq (.Zd [5,9,11,12,50,51,52]) (.Ze [p 61 (.bin .add 52 (.k (.int .i64 1))),p 52 (.Za 61)]))))))
def Xz:Qa:=⟨1,[.t 2,.t 3],(.seq (.Ze [p 2 (.Za (.k (.int .i64 0))),p 3 (.Za (.k (.int .i64 0)))]) (.seq (.seq (.Ze [p 15 (.Za 0),p 16 (.lenOf true 15),p 17
 (.bin .gtr 16 (.k (.int .i64 40)))]) (.cond 17 (.seq (.Ze [p 2 (.Za (.k (.int .i64 0))),p 3 (.Za (.k (.int .i64 3)))]) .ret) .skip)) (.seq (.Ze [p 18 (.Za 0),p 19 (.build [(.str
 []),(.int .i64 0)] [(0,1,18)]),p 20 (.build [(.str []),(.int .i64 0)] [(0,2,19)]),n 21 (.box 187 false 20),p 4 (.Za 21)]) (.seq (.Ze [p 23 (.Za 4),w 24 (.call (.k (.fn
 113 [] [])) [23]),p 22 (.Za 24),p 25 (.Zq 0 22),p 26 (.Zq 1 22),p 27 (.Zq 2 22),p 28 (.Zq 3 22),p 5 (.Za 25),p 6 (.Za 26),p 7 (.Za 27),p 8 (.Za 28)]) (.seq (.Zd
 [5,6,7,8]) (.seq (.seq (.Ze [p 29 (.Za 8),p 30 (.un .not 29)]) (.cond 30 (.seq (.Ze [p 2 (.Za (.k (.int .i64 0))),p 3 (.Za (.k (.int .i64 5)))]) .ret) .skip)) (.seq (.Ze
 [p 31 (.Za 6),p 32 (.Za 7),w 33 (.call (.k (.fn 114 [] [])) [31,32]),p 34 (.Za 6),p 35 (.Za 7),w 36 (.call (.k (.fn 115 [] [])) [34,35]),p 9 (.Za 33),p 10 (.Za 36)])
 (.seq (.Zd [5,9,10]) (.seq (.seq (.Ze [p 37 (.Za 9),p 38 (.bin .gtr 37 (.k (.int .i64 2147483648)))]) (.cond 38 (.seq (.Ze [p 2 (.Za (.k (.int .i64 0))),p 3 (.Za (.k (.int
 .i64 6)))]) .ret) .skip)) (.seq (.seq (.Ze [p 39 (.Za (.k (.int .i64 0)))]) (.block 0 (.loop H9))) (.seq (.Zd [5,9,10]) (.seq (.Ze [p 47 (.Za 10),w 48 (.call (.k
 (.fn 116 [] [])) [47]),p 49 (.bin .eql 48 (.k (.int .i64 1))),p 11 (.Za 49)]) (.seq (.Ze [p 12 (.Za (.k (.bool false)))]) (.seq (.seq (.Ze [p 50 (.Za 10),p 51 (.lenOf false
 50),p 52 (.Za (.k (.int .i64 0)))]) (.block 2 (.loop Nz))) (.seq (.Zd [5,9,11,12]) (.seq (.seq (.Ze [p 62 (.Za 11),p 63 (.Za 62),pg 64 63 true (.Za 5),pg 65
 63 true (.un .not 64),pg 66 63 true (.Za 65),pg 67 66 false (.Za 12),pg 68 63 true (.pick 66 (.k (.bool true)) 67),p 69 (.pick 63 68 (.k (.bool false)))]) (.seq (.Zd [5,9,
 69]) (.cond 69 (.Ze [p 70 (.Za 9),p 71 (.bin .add 70 (.k (.int .i64 1))),p 9 (.Za 71)]) .skip))) (.seq (.Zd [5,9]) (.seq (.seq (.Ze [p 72 (.Za 5)]) (.cond 72 (.Ze [p 73 (.Za
 9),p 74 (.un .neg 73),p 9 (.Za 74)]) .skip)) (.seq (.seq (.Ze [p 75 (.Za 9),w 76 (.call (.k (.fn 110 [] [])) [75]),p 77 (.un .not 76)]) (.cond 77 (.seq (.Ze [p 2 (.Za (.k (.int
 .i64 0))),p 3 (.Za (.k (.int .i64 6)))]) .ret) .skip)) (.seq (.Ze [p 78 (.Za 9),p 2 (.Za 78),p 3 (.Za (.k (.int .i64 0)))]) .ret))))))))))))))))))))⟩
def Q4:Qa:=⟨1,[],(.seq (.Ze [p 2 (.Za 0),p 3 (.Xd 2),p 4 (.Zi 0 3),r 5 (.load none 4),p 6 (.eqN false 0 5 (.k .J8))]) (.cond 6 (.Ze [p
 7 (.Za 0),p 8 (.Za 0),r 9 (.toU 8),w 10 (.call (.k (.fn 118 [] [])) [9]),r 11 (.ofU 84 2 10),p 12 (.Xd 7),p 13 (.Zi 0 12),w0 (.store 1 13 11)]) (.seq (.Ze [p 14 (.Za
 0),p 15 (.Xd 14),p 16 (.Zi 0 15),r 17 (.load none 16),p 18 (.Za 0),p 19 (.eqN true 0 17 18)]) (.cond 19 .stuck .skip))))⟩
def Rc:Qa:=⟨1,[.t 2],(.seq (.Ze [p 2 (.Za (.k (.bool false)))]) (.seq (.Ze [p 3 (.Za 0),p 4 (.bin .geq 3 (.k (.int .i64 (-2147483648)))),p 5 (.Za 4),pg 6 5 true
 (.Za 0),pg 7 5 true (.bin .leq 6 (.k (.int .i64 2147483648))),p 8 (.pick 5 7 (.k (.bool false))),p 2 (.Za 8)]) .ret))⟩
def stringslite_HasPrefix:Qa:=⟨2,[.t 4],(.seq (.Ze [p 4 (.Za (.k (.bool false)))]) (.seq (.Ze [p 5 (.Za 0),p 6 (.lenOf true 5),p 7 (.Za 1),p 8 (.lenOf true 7),p 9 (.bin
 .geq 6 8),p 10 (.Za 9),pg 11 10 true (.Za 0),pg 12 10 true (.Za 1),pg 13 10 true (.lenOf true 12),pg 14 10 true (.B5 11 none (some 13)),pg 15 10 true (.Za 1),pg 16 10 true
 (.bin .eql 14 15),p 17 (.pick 10 16 (.k (.bool false))),p 4 (.Za 17)]) .ret))⟩
def Xv:Qa:=⟨2,[.t 4],(.seq (.Ze [n 2 (.box 9 false 0),n 3 (.box 3 false 1),p 4 (.Za (.k .Jx))]) (.seq (.Ze [p 5 (.Pz 119 [] [2,3]),p 4 (.Za 5)]) .ret))⟩
def stringslite_Cut:Qa:=⟨2,[.t 4,.t 5,.t 6],(.seq (.Ze [p 4 (.Za (.k (.str []))),p 5 (.Za (.k (.str []))),p 6 (.Za (.k (.bool false)))]) (.seq (.seq (.Ze [p 8 (.Za
 0),p 9 (.Za 1),w 10 (.call (.k (.fn 142 [] [])) [8,9]),p 7 (.Za 10)]) (.seq (.Ze [p 11 (.Za 7),p 12 (.bin .geq 11 (.k (.int .i64 0)))]) (.cond 12 (.seq (.Kv [.op 0 (p 13
 (.Za 0)),.op 1 (p 14 (.Za 7)),.op 2 (p 15 (.B5 13 none (some 14))),.op 3 (p 16 (.Za 0)),.op 4 (p 17 (.Za 7)),.op 5 (p 18 (.Za 1)),.op 6 (p 19 (.lenOf true 18)),.op 7 (p
 20 (.bin .add 17 19)),.op 8 (p 21 (.B5 16 (some 20) none)),.op 9 (p 4 (.Za 15)),.op 10 (p 5 (.Za 21)),.op 11 (p 6 (.Za (.k (.bool true))))]) .ret) .skip))) (.seq (.Zd [0])
 (.seq (.Ze [p 22 (.Za 0),p 4 (.Za 22),p 5 (.Za (.k (.str []))),p 6 (.Za (.k (.bool false)))]) .ret))))⟩
def W3:Zv:=(.seq (.Zd [0,6,8]) (.seq (.seq (.Ze [p 33 (.Za 8),p 34 (.Za 0),p 35 (.lenOf true 34),p 36 (.bin .lss 33 35)]) (.cond 36 .skip (.exit 0)))
 (.seq (.block 1 (.seq (.Ze [p 39 (.Za 0),p 40 (.Za 8),p 41 (.J7 39 40),w 42 (.call (.k (.fn 146 [] [])) [6,41])]) (.cond 42 (.seq (.Ze [p 43 (.Za 8),p 4 (.Za 43)]) .ret)
 .skip))) (.Ze [p 37 (.Za 8),p 38 (.bin .add 37 (.k (.int .i64 1))),p 8 (.Za 38)]))))
def Yv:Zv:=(.seq (.Zd [1,45]) (.seq (.Ze [w 46 (.Sf 45),p 47 (.Zq 0 46)]) (.seq (.cond 47 .skip (.exit 2)) (.block 3 (.seq (.Ze [p 48 (.Zq 1 46),
 p 49 (.Zq 2 46),p 9 (.Za 48),p 10 (.Za 49)]) (.seq (.Ze [p 50 (.Za 1),p 51 (.Za 10),w 52 (.call (.k (.fn 143 [] [])) [50,51]),p 53 (.bin .geq 52 (.k (.int .i64 0)))]) (.cond
 53 (.seq (.Ze [p 54 (.Za 9),p 4 (.Za 54)]) .ret) .skip)))))))
def strings_IndexAny:Qa:=⟨2,[.t 4],(.seq (.Ze [p 4 (.Za (.k (.int .i64 0)))]) (.seq (.seq (.Ze [p 11 (.Za 1),p 12 (.bin .eql 11 (.k (.str [])))]) (.cond 12 (.seq (.Ze
 [p 4 (.Za (.k (.int .i64 (-1))))]) .ret) .skip)) (.seq (.seq (.Ze [p 13 (.Za 1),p 14 (.lenOf true 13),p 15 (.bin .eql 14 (.k (.int .i64 1)))]) (.cond 15 (.seq (.Ze [p 16 (.Za
 1),p 17 (.J7 16 (.k (.int .i64 0))),p 18 (.conv .i32 17),p 5 (.Za 18)]) (.seq (.seq (.Ze [p 19 (.Za 5),p 20 (.bin .geq 19 (.k (.int .i32 128)))]) (.cond 20 (.Ze [p 5 (.Za
 (.k (.int .i32 65533)))]) .skip)) (.seq (.Ze [p 21 (.Za 0),p 22 (.Za 5),w 23 (.call (.k (.fn 143 [] [])) [21,22]),p 4 (.Za 23)]) .ret))) .skip)) (.seq (.Zd [0,1]) (.seq (.seq
 (.Ze [p 24 (.Za 0),p 25 (.lenOf true 24),w 26 (.call (.k (.fn 144 [] [])) [25])]) (.cond 26 (.seq (.Ze [p 28 (.Za 1),w 29 (.call (.k (.fn 145 [] [])) [28]),p 27 (.Za 29),p
 30 (.Zq 0 27),p 31 (.Zq 1 27),n 6 (.alloc 197 false (List.replicate 256 (.bool false))),w0 (.store 256 6 30),p 7 (.Za 31)]) (.seq (.Zd [0,1,6,7]) (.seq (.Ze [p 32 (.Za
 7)]) (.cond 32 (.seq (.seq (.Ze [p 8 (.Za (.k (.int .i64 0)))]) (.block 0 (.loop W3))) (.seq (.Zd []) (.seq (.Ze [p 4 (.Za (.k (.int .i64 (-1))))]) .ret))) .skip))))
 .skip)) (.seq (.Zd [0,1]) (.seq (.seq (.Ze [p 44 (.Za 0),n 45 (.A3 44)]) (.block 2 (.loop Yv))) (.seq (.Zd []) (.seq (.Ze [p 4 (.Za (.k (.int .i64 (-1))))])
 .ret)))))))))⟩
def Vx:Zv:=(.seq (.Zd [0,2,3,4,8,9,70,71,72]) (.seq (.Ze [p 73 (.bin .lss 72 71)]) (.seq (.cond 73 .skip (.exit 0)) (.seq (.block 1 (.seq (.Ze
 [p 74 (.Zu 1 70 72),r 75 (.load none 74),p 12 (.Za 75)]) (.Ze [p 76 (.Za 9),p 77 (.bin .mul (.k (.int .i64 10)) 76),p 78 (.Za 12),p 79 (.conv .i64 78),p 80 (.bin .add
 77 79),p 9 (.Za 80)]))) (.seq (.Zd [0,2,3,4,8,9,70,71,72]) (.Ze [p 81 (.bin .add 72 (.k (.int .i64 1))),p 72 (.Za 81)]))))))
def K8:Qa:=⟨1,[.t 2,.t 3,.t 4,.t 5],(.seq (.Ze [p 2 (.Za (.k (.bool false))),p 3 (.Za (.k .Zc)),p 4 (.Za (.k (.int .i64 0))),p 5 (.Za (.k
 (.bool false)))]) (.seq (.Ze [p 13 (.Za 0),p 14 (.Pz 120 [13] []),p 15 (.Za 0),p 16 (.Pz 121 [15] []),p 6 (.Za 14),p 7 (.Za 16)]) (.seq (.Ze [p 17 (.Za 6),w 18 (.call
 17 [(.k (.str [43,45]))]),p 19 (.Za 18),pg 20 19 true (.Za 0),pg 21 19 true (.Xd 20),pg 22 19 true (.Zi 0 21),pg 23 19 true (.Zi 0 22),rg 24 19 true (.load none 23),
 pg 25 19 true (.J7 24 (.k (.int .i64 0))),pg 26 19 true (.bin .eql 25 (.k (.int .u8 45))),p 27 (.pick 19 26 (.k (.bool false))),p 2 (.Za 27)]) (.seq (.Zd [0,2,6,7]) (.seq
 (.Ze [p 28 (.Za 7),w 29 (.call 28 []),p 3 (.Za 29)]) (.seq (.Ze [p 30 (.Za 3),p 31 (.lenOf false 30),p 4 (.Za 31)]) (.seq (.seq (.Ze [p 32 (.Za 6),w 33 (.call 32 [(.k (.str
 [46]))])]) (.cond 33 (.Ze [p 34 (.Za 3),p 35 (.Za 7),w 36 (.call 35 []),w 37 (.append 5 1 1 [(.int .u8 0)] 34 36),p 3 (.Za 37)]) .skip)) (.seq (.seq (.Ze [p 38 (.Za 3),p
 39 (.lenOf false 38),p 40 (.bin .eql 39 (.k (.int .i64 0)))]) (.cond 40 (.seq (.Ze [p 2 (.Za (.k (.bool false))),p 3 (.Za (.k .Zc)),p 4 (.Za (.k (.int .i64 0))),p 5 (.Za
 (.k (.bool false)))]) .ret) .skip)) (.seq (.seq (.Ze [p 41 (.Za 6),w 42 (.call 41 [(.k (.str [101,69]))])]) (.cond 42 (.seq (.Kv [.op 0 (p 43 (.Za 6)),.op 1 (w 44 (.call 43
 [(.k (.str [43,45]))])),.op 2 (p 45 (.Za 44)),.op 3 (pg 46 45 true (.Za 0)),.op 4 (pg 47 45 true (.Xd 46)),.op 5 (pg 48 45 true (.Zi 0 47)),.op 6 (pg 49 45 true (.Zi
 0 48)),.op 7 (rg 50 45 true (.load none 49)),.op 8 (pg 51 45 true (.Za 0)),.op 9 (pg 52 45 true (.Xd 51)),.op 10 (pg 53 45 true (.Zi 0 52)),.op 11 (pg 54 45 true (.Zi
 1 53)),.op 12 (rg 55 45 true (.load none 54)),.op 13 (pg 56 45 true (.bin .sub 55 (.k (.int .i64 1)))),.op 14 (pg 57 45 true (.J7 50 56)),.op 15 (pg 58 45 true (.bin .eql 57 (.k
 (.int .u8 45)))),.op 16 (p 59 (.pick 45 58 (.k (.bool false)))),.op 17 (p 8 (.Za 59))]) (.seq (.Zd [0,2,3,4,7,8]) (.seq (.Ze [p 60 (.Za 7),w 61 (.call 60 []),p 9 (.Za
 (.k (.int .i64 0))),p 10 (.Za 61)]) (.seq (.seq (.Ze [p 62 (.Za 10),p 63 (.lenOf false 62),p 64 (.bin .lss 63 (.k (.int .i64 1))),p 65 (.Za 64),pg 66 65 false (.Za 10),pg
 67 65 false (.lenOf false 66),pg 68 65 false (.bin .gtr 67 (.k (.int .i64 3))),p 69 (.pick 65 (.k (.bool true)) 68)]) (.seq (.Zd [0,2,3,4,8,9,10,69]) (.cond 69 (.seq (.Ze
 [p 2 (.Za (.k (.bool false))),p 3 (.Za (.k .Zc)),p 4 (.Za (.k (.int .i64 0))),p 5 (.Za (.k (.bool false)))]) .ret) .skip))) (.seq (.Zd [0,2,3,4,8,9,10]) (.seq (.seq
 (.Ze [p 70 (.Za 10),p 71 (.lenOf false 70),p 72 (.Za (.k (.int .i64 0)))]) (.block 0 (.loop Vx))) (.seq (.Zd [0,2,3,4,8,9]) (.seq (.seq (.Ze [p 82
 (.Za 8)]) (.cond 82 (.Ze [p 83 (.Za 9),p 84 (.un .neg 83),p 9 (.Za 84)]) .skip)) (.Ze [p 85 (.Za 4),p 86 (.Za 9),p 87 (.bin .add 85 86),p 4 (.Za 87)]))))))))) .skip)) (.seq
 (.Zd [0,2,3,4]) (.seq (.Kv [.op 3 (p 91 (.Za 0)),.op 4 (p 92 (.Xd 91)),.op 5 (p 93 (.Zi 0 92)),.op 6 (p 94 (.Zi 1 93)),.op 7 (r 95 (.load none 94)),.op 8 (p 96
 (.Za 0)),.op 9 (p 97 (.Xd 96)),.op 10 (p 98 (.Zi 0 97)),.op 11 (p 99 (.Zi 0 98)),.op 12 (r 100 (.load none 99)),.op 0 (p 88 (.Za 2)),.op 1 (p 89 (.Za 3)),.op 2 (p
 90 (.Za 4)),.op 13 (p 101 (.lenOf true 100)),.op 14 (p 102 (.bin .eql 95 101)),.op 15 (p 2 (.Za 88)),.op 16 (p 3 (.Za 89)),.op 17 (p 4 (.Za 90)),.op 18 (p 5 (.Za 102))])
 .ret)))))))))))⟩
def Yd:Zv:=(.seq (.Zd [0,1,5,6]) (.seq (.seq (.Ze [p 8 (.Za 6),p 9 (.Za 1),p 10 (.bin .lss 8 9)]) (.cond 10 .skip (.exit 0))) (.seq (.block 1 (.seq (.Ze
 [p 7 (.Za (.k (.int .i64 0)))]) (.seq (.seq (.Ze [p 13 (.Za 6),p 14 (.Za 0),p 15 (.lenOf false 14),p 16 (.bin .lss 13 15)]) (.cond 16 (.Ze [p 17 (.Za 0),p 18 (.Za 6),p 19
 (.Zu 1 17 18),r 20 (.load none 19),p 21 (.conv .i64 20),p 7 (.Za 21)]) .skip)) (.seq (.Zd [0,1,5,6,7]) (.seq (.Ze [p 22 (.Za 5),p 23 (.bin .mul (.k (.int .i64 10))
 22),p 24 (.Za 7),p 25 (.bin .add 23 24),p 5 (.Za 25)]) (.seq (.Ze [p 26 (.Za 5),p 27 (.bin .gtr 26 (.k (.int .i64 2147483648)))]) (.cond 27 (.seq (.Ze [p 28 (.Za 5),p 4 (.Za
 28)]) .ret) .skip))))))) (.seq (.Zd [0,1,5,6]) (.Ze [p 11 (.Za 6),p 12 (.bin .add 11 (.k (.int .i64 1))),p 6 (.Za 12)])))))
def Rq:Qa:=⟨2,[.t 4],(.seq (.Ze [p 4 (.Za (.k (.int .i64 0)))]) (.seq (.Ze [p 5 (.Za (.k (.int .i64 0)))]) (.seq (.seq (.Ze [p 6 (.Za (.k (.int .i64 0)))]) (.block
 0 (.loop Yd))) (.seq (.Zd [5]) (.seq (.Ze [p 29 (.Za 5),p 4 (.Za 29)]) .ret)))))⟩
def K7:Zv:=(.seq (.Zd [0,1,5,6]) (.seq (.seq (.Ze [p 9 (.Za 6),p 10 (.Za 0),p 11 (.lenOf false 10),p 12 (.bin .lss 9 11)]) (.cond 12 .skip (.exit 0)))
 (.seq (.block 1 (.block 2 (.seq (.Ze [p 16 (.Za 6),p 17 (.bin .lss 16 (.k (.int .i64 0))),p 15 (.Za 17)]) (.cond 15 (.Ze [p 18 (.Za 5),n 19 (.Qe 5 1 [(.int .u8 0)] [(0,
 1,(.k (.int .u8 0)))]),w 20 (.append 5 1 1 [(.int .u8 0)] 18 19),p 5 (.Za 20)]) (.seq (.Ze [p 22 (.Za 6),p 23 (.Za 1),p 24 (.bin .geq 22 23),p 21 (.Za 24)]) (.cond 21 (.Ze
 [p 25 (.Za 5),p 26 (.Za 0),p 27 (.Za 6),p 28 (.Zu 1 26 27),r 29 (.load none 28),n 30 (.Qe 5 1 [(.int .u8 0)] [(0,1,29)]),w 31 (.append 5 1 1 [(.int .u8 0)] 25 30),
 p 5 (.Za 31)]) .skip)))))) (.seq (.Zd [0,1,5,6]) (.Ze [p 13 (.Za 6),p 14 (.bin .add 13 (.k (.int .i64 1))),p 6 (.Za 14)])))))
def Lk:Qa:=⟨2,[.t 4],(.seq (.Ze [p 4 (.Za (.k .Zc))]) (.seq (.Ze [p 5 (.Za (.k .Zc))]) (.seq (.seq (.Ze [p 7 (.Za 1),p 8 (.Bl false [7,(.k
 (.int .i64 0))]),p 6 (.Za 8)]) (.block 0 (.loop K7))) (.seq (.Zd [5]) (.seq (.Ze [p 32 (.Za 5),p 4 (.Za 32)]) .ret)))))⟩
def Xf:Zv:=(.seq (.Zd [0,3,4]) (.seq (.seq (.Ze [p 9 (.Za 4),p 10 (.bin .geq 9 (.k (.int .i64 0)))]) (.cond 10 .skip (.exit 0))) (.seq (.block 1 (.seq (.Ze
 [p 13 (.Za 0),p 14 (.Za 4),p 15 (.Zu 1 13 14),r 16 (.load none 15),p 17 (.bin .mul (.k (.int .u8 2)) 16),p 18 (.Za 3),p 19 (.bin .add 17 18),p 5 (.Za 19)]) (.seq (.Zd
 [0,4,5]) (.Ze [p 20 (.Za 0),p 21 (.Za 4),p 22 (.Za 5),p 23 (.bin .rem 22 (.k (.int .u8 10))),p 24 (.Za 5),p 25 (.bin .quo 24 (.k (.int .u8 10))),p 26 (.Zu 1 20 21),
 w0 (.store 1 26 23),p 3 (.Za 25)])))) (.seq (.Zd [0,3,4]) (.Ze [p 11 (.Za 4),p 12 (.bin .sub 11 (.k (.int .i64 1))),p 4 (.Za 12)])))))
def Wp:Qa:=⟨1,[.t 2],(.seq (.Ze [p 2 (.Za (.k (.int .i64 0)))]) (.seq (.Ze [p 3 (.Za (.k (.int .u8 0)))]) (.seq (.seq (.Ze [p 6 (.Za 0),p 7 (.lenOf false 6),
 p 8 (.bin .sub 7 (.k (.int .i64 1))),p 4 (.Za 8)]) (.block 0 (.loop Xf))) (.seq (.Zd [3]) (.seq (.Ze [p 27 (.Za 3),p 28 (.conv .i64 27),p 2 (.Za 28)]) .ret)))))⟩
def Ra:Zv:=(.seq (.Zd [0,1,2,7,8]) (.seq (.Ze [p 9 (.bin .lss 8 7)]) (.seq (.cond 9 .skip (.exit 0)) (.seq (.block 1 (.seq (.Ze [p 10 (.Za 8),p 4 (.Za
 10)]) (.seq (.Ze [r 11 (.load none 1),p 12 (.Za 4),p 13 (.J7 11 12),w 14 (.call (.k (.fn 122 [] [])) [13]),p 5 (.Za 14)]) (.seq (.seq (.Ze [p 15 (.Za 5),r 16 (.load none
 2),p 17 (.bin .geq 15 16)]) (.cond 17 (.Ze [p 5 (.Za (.k (.int .i64 (-1))))]) .skip)) (.seq (.Ze [p 18 (.Za 0),p 19 (.Za 5),w 20 (.call 18 [19]),p 21 (.un .not 20)]) (.cond
 21 .ret .skip)))))) (.seq (.Zd [0,1,2,7,8]) (.Ze [p 22 (.bin .add 8 (.k (.int .i64 1))),p 8 (.Za 22)]))))))
def Wl:Qa:=⟨3,[],(.seq (.Ze [r 6 (.load none 1),p 7 (.lenOf true 6),p 8 (.Za (.k (.int .i64 0)))]) (.block 0 (.loop Ra)))⟩
def Wt:Zv:=(.seq (.Zd [175]) (.seq (.Ze [w 176 (.Sf 175),p 177 (.Zq 0 176)]) (.seq (.cond 177 .skip (.exit 9)) (.block 10 (.seq (.Ze [p 178 (.Zq
 1 176),p 179 (.Zq 2 176),p 5 (.Za 178),p 6 (.Za 179)]) (.seq (.Ze [p 180 (.Za 6),p 181 (.bin .eql 180 (.k (.int .i32 65533)))]) (.cond 181 (.seq (.Ze [p 182 (.Za 5),p 4
 (.Za 182)]) .ret) .skip)))))))
def A7:Zv:=(.seq (.Zd [0,7,8,9,12]) (.seq (.seq (.Ze [p 48 (.Za 12),p 49 (.Za 7),p 50 (.lenOf true 49),p 51 (.bin .lss 48 50)]) (.cond 51 .skip
 (.exit 3))) (.seq (.block 4 (.seq (.Kv [.op 0 (p 54 (.Za 0)),.op 1 (p 55 (.Za 9)),.op 2 (p 56 (.Za 12)),.op 3 (p 57 (.bin .sub 55 56)),.op 4 (p 58 (.J7 54 57)),.op 5 (p
 59 (.Za 7)),.op 6 (p 60 (.Za 8)),.op 7 (p 61 (.Za 12)),.op 8 (p 62 (.bin .sub 60 61)),.op 9 (p 63 (.J7 59 62)),.op 10 (p 64 (.bin .neq 58 63))]) (.cond 64 .stuck .skip)))
 (.seq (.Zd [0,7,8,9,12]) (.Ze [p 52 (.Za 12),p 53 (.bin .add 52 (.k (.int .i64 1))),p 12 (.Za 53)])))))
def My:Zv:=(.seq (.Zd [0,7,8,9]) (.seq (.seq (.Ze [p 23 (.Za 9),p 24 (.Za 0),p 25 (.lenOf true 24),p 26 (.bin .lss 23 25)]) (.cond 26 .skip (.exit
 1))) (.block 2 (.scope (.seq (.seq (.Kv [.op 0 (p 27 (.Za 0)),.op 1 (p 28 (.Za 9)),.op 2 (p 29 (.J7 27 28)),.op 3 (p 30 (.Za 7)),.op 4 (p 31 (.Za 8)),.op 5 (p 32 (.J7
 30 31)),.op 6 (p 33 (.bin .neq 29 32))]) (.cond 33 (.seq (.Kv [.op 0 (p 34 (.Za 0)),.op 1 (p 35 (.Za 9)),.op 2 (p 36 (.bin .add 35 (.k (.int .i64 1)))),.op 3 (p 37 (.B5 34
 (some 36) none)),.op 4 (p 38 (.Za 7)),.op 5 (p 39 (.Za 8)),.op 6 (p 40 (.J7 38 39)),.op 7 (w 41 (.call (.k (.fn 84 [] [])) [37,40])),.op 8 (p 11 (.Za 41))]) (.seq (.Zd
 [0,7,8,9,11]) (.seq (.seq (.Ze [p 42 (.Za 11),p 43 (.bin .lss 42 (.k (.int .i64 0)))]) (.cond 43 (.seq (.Ze [p 4 (.Za (.k (.int .i64 (-1))))]) .ret) .skip)) (.Ze [p 44 (.Za
 9),p 45 (.Za 11),p 46 (.bin .add 45 (.k (.int .i64 1))),p 47 (.bin .add 44 46),p 9 (.Za 47)])))) .skip)) (.seq (.Zd [0,7,8,9]) (.seq (.seq (.Ze [p 12 (.Za (.k (.int .i64
 1)))]) (.block 3 (.loop A7))) (.seq (.Zd [8,9]) (.seq (.seq (.Ze [p 65 (.Za 9),p 66 (.Za 8),p 67 (.bin .sub 65 66),p 4 (.Za 67)]) .ret) (.seq .skip (.seq
 (.Ze [p 68 (.Za 10),p 69 (.bin .add 68 (.k (.int .i64 1))),p 10 (.Za 69)]) (.seq (.Ze [p 70 (.Za 9),p 71 (.bin .add 70 (.k (.int .i64 1))),p 9 (.Za 71)]) (.seq (.Ze [p 72
 (.Za (.k (.bool true))),pg 73 72 true (.Za 10),pg 74 72 true (.Za 9),wg 75 72 true (.call (.k (.fn 148 [] [])) [74]),pg 76 72 true (.bin .gtr 73 75),p 77 (.pick 72 76 (.k (.bool
 false))),p 78 (.Za 77),pg 79 78 true (.Za 9),pg 80 78 true (.Za 0),pg 81 78 true (.lenOf true 80),pg 82 78 true (.bin .lss 79 81),p 83 (.pick 78 82 (.k (.bool false))),p 84
 (.Za 83),pg 85 84 false (.Za (.k (.bool false))),pg 86 85 true (.Za 10),pg 87 85 true (.Za 9),pg 88 85 true (.bin .shr 87 (.k (.int .u64 4))),pg 89 85 true (.bin .add (.k (.int
 .i64 4)) 88),pg 90 85 true (.bin .geq 86 89),pg 91 84 false (.pick 85 90 (.k (.bool false))),pg 92 84 false (.Za 91),pg 93 92 true (.Za 9),pg 94 92 true (.Za 0),pg 95 92 true
 (.lenOf true 94),pg 96 92 true (.bin .lss 93 95),pg 97 84 false (.pick 92 96 (.k (.bool false))),p 98 (.pick 84 (.k (.bool true)) 97)]) (.cond 98 .stuck .skip))))))))))))))
def A8:Zv:=(.seq (.Zd [0,7,8,9,14,15,16]) (.seq (.seq (.Ze [p 140 (.Za 16),p 141 (.Za 7),p 142 (.lenOf true 141),p 143 (.bin .lss 140 142)]) (.cond
 143 .skip (.exit 7))) (.seq (.block 8 (.seq (.Kv [.op 0 (p 146 (.Za 0)),.op 1 (p 147 (.Za 9)),.op 2 (p 148 (.Za 16)),.op 3 (p 149 (.bin .sub 147 148)),.op 4 (p 150 (.J7 146
 149)),.op 5 (p 151 (.Za 7)),.op 6 (p 152 (.Za 8)),.op 7 (p 153 (.Za 16)),.op 8 (p 154 (.bin .sub 152 153)),.op 9 (p 155 (.J7 151 154)),.op 10 (p 156 (.bin .neq 150 155))])
 (.cond 156 (.exit 6) .skip))) (.seq (.Zd [0,7,8,9,14,15,16]) (.Ze [p 144 (.Za 16),p 145 (.bin .add 144 (.k (.int .i64 1))),p 16 (.Za 145)])))))
def A9:Zv:=(.seq (.Zd [0,7,8,9,14,15]) (.seq (.seq (.Ze [p 121 (.Za 9),p 122 (.Za 0),p 123 (.lenOf true 122),p 124 (.bin .lss 121 123)]) (.cond
 124 .skip (.exit 5))) (.seq (.block 6 (.seq (.Ze [p 127 (.Za 0),p 128 (.Za 9),p 129 (.J7 127 128),p 130 (.Za 14),p 131 (.bin .eql 129 130),p 132 (.Za 131),pg 133 132 true
 (.Za 0),pg 134 132 true (.Za 9),pg 135 132 true (.bin .sub 134 (.k (.int .i64 1))),pg 136 132 true (.J7 133 135),pg 137 132 true (.Za 15),pg 138 132 true (.bin .eql 136 137),
 p 139 (.pick 132 138 (.k (.bool false)))]) (.seq (.Zd [0,7,8,9,14,15,139]) (.cond 139 (.seq (.seq (.Ze [p 16 (.Za (.k (.int .i64 2)))]) (.block 7 (.loop A8)))
 (.seq (.Zd [8,9]) (.seq (.Ze [p 157 (.Za 9),p 158 (.Za 8),p 159 (.bin .sub 157 158),p 4 (.Za 159)]) .ret))) .skip)))) (.seq (.Zd [0,7,8,9,14,15]) (.Ze [p 125 (.Za
 9),p 126 (.bin .add 125 (.k (.int .i64 1))),p 9 (.Za 126)])))))
def Kq:Qa:=⟨2,[.t 4],(.seq (.Ze [p 4 (.Za (.k (.int .i64 0)))]) (.block 0 (.seq (.Ze [p 161 (.Za 1),p 162 (.bin .leq (.k (.int .i32 0)) 161),p 163 (.Za
 162),pg 164 163 true (.Za 1),pg 165 163 true (.bin .lss 164 (.k (.int .i32 128))),p 166 (.pick 163 165 (.k (.bool false))),p 160 (.Za 166)]) (.cond 160 (.seq (.Ze [p 167 (.Za
 0),p 168 (.Za 1),p 169 (.conv .u8 168),w 170 (.call (.k (.fn 84 [] [])) [167,169]),p 4 (.Za 170)]) .ret) (.seq (.Ze [p 172 (.Za 1),p 173 (.bin .eql 172 (.k (.int .i32 65533))),
 p 171 (.Za 173)]) (.cond 171 (.seq (.seq (.Ze [p 174 (.Za 0),n 175 (.A3 174)]) (.block 9 (.loop Wt))) (.seq (.Zd []) (.seq (.Ze [p 4 (.Za (.k (.int .i64
 (-1))))]) .ret))) (.seq (.Ze [p 184 (.Za 1),w 185 (.call (.k (.fn 147 [] [])) [184]),p 186 (.un .not 185),p 183 (.Za 186)]) (.cond 183 (.seq (.Ze [p 4 (.Za (.k (.int .i64 (-1))))])
 .ret) (.scope (.seq (.Ze [p 17 (.Za 1),p 18 (.r2s 17),p 7 (.Za 18)]) (.seq (.Ze [p 19 (.Za 7),p 20 (.lenOf true 19),p 21 (.bin .sub 20 (.k (.int .i64 1))),p 8 (.Za 21)])
 (.seq (.Ze [p 22 (.Za 8),p 9 (.Za 22)]) (.seq (.Ze [p 10 (.Za (.k (.int .i64 0)))]) (.seq (.block 1 (.loop My)) (.seq (.Zd []) (.seq (.seq (.Ze [p 4 (.Za
 (.k (.int .i64 (-1))))]) .ret) (.seq .skip (.seq (.cond (.k (.bool true)) (.seq (.Ze [p 99 (.Za 0),p 100 (.Za 9),p 101 (.Za 8),p 102 (.bin .sub 100 101),p 103 (.B5 99 (some
 102) none),p 104 (.Za 1),p 105 (.r2s 104),w 106 (.call (.k (.fn 149 [] [])) [103,105]),p 13 (.Za 106)]) (.seq (.Zd [8,9,13]) (.seq (.Ze [p 107 (.Za 13),p 108 (.bin .geq
 107 (.k (.int .i64 0)))]) (.cond 108 (.seq (.Ze [p 109 (.Za 9),p 110 (.Za 13),p 111 (.bin .add 109 110),p 112 (.Za 8),p 113 (.bin .sub 111 112),p 4 (.Za 113)]) .ret) .skip))))
 (.scope (.seq (.Ze [p 114 (.Za 7),p 115 (.Za 8),p 116 (.J7 114 115),p 14 (.Za 116)]) (.seq (.Ze [p 117 (.Za 7),p 118 (.Za 8),p 119 (.bin .sub 118 (.k (.int .i64 1))),
 p 120 (.J7 117 119),p 15 (.Za 120)]) (.seq .skip (.block 5 (.loop A9))))))) (.seq (.Zd []) (.seq (.Ze [p 4 (.Za (.k (.int .i64 (-1))))]) .ret))))))))))))))))))))⟩
def strings_shouldUseASCIISet:Qa:=⟨1,[.t 2],(.seq (.Ze [p 2 (.Za (.k (.bool false)))]) (.seq (.Ze [p 3 (.Za 0),p 4 (.bin .gtr 3 (.k (.int .i64 8))),p 2 (.Za 4)]) .ret))⟩
def Vz:Zv:=(.seq (.Zd [0,2,4]) (.seq (.seq (.Ze [p 6 (.Za 4),p 7 (.Za 0),p 8 (.lenOf true 7),p 9 (.bin .lss 6 8)]) (.cond 9 .skip (.exit 0))) (.seq
 (.block 1 (.seq (.Ze [p 12 (.Za 0),p 13 (.Za 4),p 14 (.J7 12 13),p 5 (.Za 14)]) (.seq (.seq (.Ze [p 15 (.Za 5),p 16 (.bin .geq 15 (.k (.int .u8 128)))]) (.cond 16 (.seq
 (.Ze [r 17 (.load (some 256) 2),w0 (.store 256 2 17),p 3 (.Za (.k (.bool false)))]) .ret) .skip)) (.Ze [p 18 (.Za 5),p 19 (.Nq 256 1 2 18),w0 (.store 1 19 (.k (.bool true)))]))))
 (.seq (.Zd [0,2,4]) (.Ze [p 10 (.Za 4),p 11 (.bin .add 10 (.k (.int .i64 1))),p 4 (.Za 11)])))))
def strings_makeASCIISet:Qa:=⟨1,[.cell 2 (some 256),.t 3],(.seq (.Ze [n 2 (.alloc 197 true (List.replicate 256 (.bool false))),p 3 (.Za (.k (.bool false)))]) (.seq (.seq
 (.Ze [p 4 (.Za (.k (.int .i64 0)))]) (.block 0 (.loop Vz))) (.seq (.Zd [2]) (.seq (.Ze [r 20 (.load (some 256) 2),w0 (.store 256 2 20),p 3 (.Za (.k (.bool
 true)))]) .ret))))⟩
def Ju:Qa:=⟨2,[.t 4],(.seq (.Ze [p 4 (.Za (.k (.bool false)))]) (.seq (.Ze [p 5 (.Za 0),p 6 (.Za 1),p 7 (.Xd 5),p 8 (.Nq 256 1 7 6),r
 9 (.load none 8),p 4 (.Za 9)]) .ret))⟩
def V8:Zv:=(.seq (.Zd [0,1,19,20]) (.seq (.Ze [p 21 (.bin .lss 20 19)]) (.seq (.cond 21 .skip (.exit 0)) (.seq (.block 1 (.seq (.Ze [p 22 (.Za 20),p
 5 (.Za 22)]) (.seq (.Kv [.op 0 (p 23 (.Za 0)),.op 1 (p 24 (.Xd 23)),.op 2 (p 25 (.Zi 0 24)),.op 3 (p 26 (.Zi 0 25)),.op 4 (r 27 (.load none 26)),.op 5 (p 28 (.Za
 0)),.op 6 (p 29 (.Xd 28)),.op 7 (p 30 (.Zi 0 29)),.op 8 (p 31 (.Zi 1 30)),.op 9 (r 32 (.load none 31)),.op 10 (p 33 (.J7 27 32)),.op 11 (p 34 (.Za 1)),.op 12 (p 35
 (.Za 5)),.op 13 (p 36 (.J7 34 35)),.op 14 (p 37 (.bin .eql 33 36))]) (.seq (.Zd [0,1,19,20,37]) (.cond 37 (.seq (.Ze [p 38 (.Za 0),p 39 (.Xd 38),p 40 (.Zi 0 39),
 p 41 (.Zi 1 40),r 42 (.load none 41),p 43 (.bin .add 42 (.k (.int .i64 1))),p 44 (.Xd 38),p 45 (.Zi 0 44),p 46 (.Zi 1 45),w0 (.store 1 46 43)]) (.seq (.Zd []) (.seq
 (.Ze [p 4 (.Za (.k (.bool true)))]) .ret))) .skip))))) (.seq (.Zd [0,1,19,20]) (.Ze [p 47 (.bin .add 20 (.k (.int .i64 1))),p 20 (.Za 47)]))))))
def Jz:Qa:=⟨2,[.t 4],(.seq (.Ze [p 4 (.Za (.k (.bool false)))]) (.seq (.seq (.Kv [.op 0 (p 6 (.Za 0)),.op 1 (p 7 (.Xd 6)),.op 2 (p 8 (.Zi 0 7)),.op
 3 (p 9 (.Zi 1 8)),.op 4 (r 10 (.load none 9)),.op 5 (p 11 (.Za 0)),.op 6 (p 12 (.Xd 11)),.op 7 (p 13 (.Zi 0 12)),.op 8 (p 14 (.Zi 0 13)),.op 9 (r 15 (.load none 14)),
 .op 10 (p 16 (.lenOf true 15)),.op 11 (p 17 (.bin .eql 10 16))]) (.seq (.Zd [0,1,17]) (.cond 17 (.seq (.Ze [p 4 (.Za (.k (.bool false)))]) .ret) .skip))) (.seq (.Zd [0,1])
 (.seq (.seq (.Ze [p 18 (.Za 1),p 19 (.lenOf true 18),p 20 (.Za (.k (.int .i64 0)))]) (.block 0 (.loop V8))) (.seq (.Zd []) (.seq (.Ze [p 4 (.Za (.k (.bool
 false)))]) .ret))))))⟩
def Ud:Zv:=(.seq (.Zd [0,3]) (.seq (.seq (.Ze [p 4 (.Za 0),w 5 (.call (.k (.fn 120 [] [])) [4,(.k (.str [48,49,50,51,52,53,54,55,56,57]))])])
 (.cond 5 .skip (.exit 0))) (.block 1 (.Kv [.op 1 (p 7 (.Za 0)),.op 2 (p 8 (.Xd 7)),.op 3 (p 9 (.Zi 0 8)),.op 4 (p 10 (.Zi 0 9)),.op 5 (r 11 (.load none 10)),.op 6 (p
 12 (.Za 0)),.op 7 (p 13 (.Xd 12)),.op 8 (p 14 (.Zi 0 13)),.op 9 (p 15 (.Zi 1 14)),.op 10 (r 16 (.load none 15)),.op 0 (p 6 (.Za 3)),.op 11 (p 17 (.bin .sub 16 (.k (.int
 .i64 1)))),.op 12 (p 18 (.J7 11 17)),.op 13 (p 19 (.bin .sub 18 (.k (.int .u8 48)))),.op 14 (n 20 (.Qe 5 1 [(.int .u8 0)] [(0,1,19)])),.op 15 (w 21 (.append 5 1 1 [(.int
 .u8 0)] 6 20)),.op 16 (p 3 (.Za 21))]))))
def Yu:Qa:=⟨1,[.t 2],(.seq (.Ze [p 2 (.Za (.k .Zc))]) (.seq (.Ze [p 3 (.Za (.k .Zc))]) (.seq (.block 0 (.loop Ud)) (.seq
 (.Zd [3]) (.seq (.Ze [p 22 (.Za 3),p 2 (.Za 22)]) .ret)))))⟩
def Co:Qa:=⟨1,[.t 2],(.seq (.Ze [p 2 (.Za (.k (.int .i64 0)))]) (.seq (.block 0 (.seq (.Ze [p 4 (.Za 0),p 5 (.bin .geq 4 (.k (.int .u8 48))),p 6 (.Za 5),pg 7
 6 true (.Za 0),pg 8 6 true (.bin .leq 7 (.k (.int .u8 57))),p 9 (.pick 6 8 (.k (.bool false))),p 3 (.Za 9)]) (.cond 3 (.seq (.Ze [p 10 (.Za 0),p 11 (.bin .sub 10 (.k (.int .u8
 48))),p 12 (.conv .i64 11),p 2 (.Za 12)]) .ret) (.seq (.Ze [p 14 (.Za 0),p 15 (.bin .geq 14 (.k (.int .u8 97))),p 16 (.Za 15),pg 17 16 true (.Za 0),pg 18 16 true (.bin .leq
 17 (.k (.int .u8 122))),p 19 (.pick 16 18 (.k (.bool false))),p 13 (.Za 19)]) (.cond 13 (.seq (.Ze [p 20 (.Za 0),p 21 (.bin .sub 20 (.k (.int .u8 97))),p 22 (.conv .i64 21),
 p 23 (.bin .add 22 (.k (.int .i64 10))),p 2 (.Za 23)]) .ret) (.seq (.Ze [p 25 (.Za 0),p 26 (.bin .geq 25 (.k (.int .u8 65))),p 27 (.Za 26),pg 28 27 true (.Za 0),pg 29 27 true
 (.bin .leq 28 (.k (.int .u8 90))),p 30 (.pick 27 29 (.k (.bool false))),p 24 (.Za 30)]) (.cond 24 (.seq (.Ze [p 31 (.Za 0),p 32 (.bin .sub 31 (.k (.int .u8 65))),p 33 (.conv
 .i64 32),p 34 (.bin .add 33 (.k (.int .i64 10))),p 2 (.Za 34)]) .ret) .skip))))))) (.seq (.Zd []) (.seq (.Ze [p 2 (.Za (.k (.int .i64 99)))]) .ret))))⟩
def Q6:Qa:=⟨1,[.t 2],(.seq (.Ze [p 2 (.Za (.k (.bool false)))]) (.seq (.block 0 (.seq (.Ze [p 4 (.Za 0),p 5 (.bin .leq (.k (.int .i32 0)) 4),p 6 (.Za
 5),pg 7 6 true (.Za 0),pg 8 6 true (.bin .lss 7 (.k (.int .i32 55296))),p 9 (.pick 6 8 (.k (.bool false))),p 3 (.Za 9)]) (.cond 3 (.seq (.Ze [p 2 (.Za (.k (.bool true)))]) .ret)
 (.seq (.Ze [p 11 (.Za 0),p 12 (.bin .lss (.k (.int .i32 57343)) 11),p 13 (.Za 12),pg 14 13 true (.Za 0),pg 15 13 true (.bin .leq 14 (.k (.int .i32 1114111))),p 16 (.pick 13
 15 (.k (.bool false))),p 10 (.Za 16)]) (.cond 10 (.seq (.Ze [p 2 (.Za (.k (.bool true)))]) .ret) .skip))))) (.seq (.Zd []) (.seq (.Ze [p 2 (.Za (.k (.bool false)))]) .ret))))⟩
def bytealg_Cutover:Qa:=⟨1,[.t 2],(.seq (.Ze [p 2 (.Za (.k (.int .i64 0)))]) (.seq (.Ze [p 3 (.Za 0),p 4 (.bin .add 3 (.k (.int .i64 16))),p 5 (.bin .quo 4 (.k (.int .i64
 8))),p 2 (.Za 5)]) .ret))⟩
structure Nl (T:Tab):Prop where
 en:T.en 84=some V5
structure Ti (T:Tab):Prop where
 en:T.en 118=some W5
structure Nn (T:Tab):Prop where
 en:T.en 142=some V6
structure Wv (T:Tab):Prop where
 e:T.en 92=none
 f:T.fn 92=some Km
structure Wi (T:Tab):Prop where
 e:T.en 96=none
 f:T.fn 96=some Jd
structure Ua (T:Tab):Prop where
 e:T.en 109=none
 f:T.fn 109=some Q4
 Zni:Ti T
structure Ii (T:Tab):Prop where
 e:T.en 110=none
 f:T.fn 110=some Rc
structure Rv (T:Tab):Prop where
 e:T.en 123=none
 f:T.fn 123=some stringslite_HasPrefix
structure Fb (T:Tab):Prop where
 e:T.en 140=none
 f:T.fn 140=some stringslite_Cut
 stringslite_Index:Nn T
structure O0 (T:Tab):Prop where
 e:T.en 114=none
 f:T.fn 114=some Rq
structure Dc (T:Tab):Prop where
 e:T.en 115=none
 f:T.fn 115=some Lk
structure H6 (T:Tab):Prop where
 e:T.en 116=none
 f:T.fn 116=some Wp
structure L4 (T:Tab):Prop where
 e:T.en 144=none
 f:T.fn 144=some strings_shouldUseASCIISet
structure Xr (T:Tab):Prop where
 e:T.en 145=none
 f:T.fn 145=some strings_makeASCIISet
structure Yb (T:Tab):Prop where
 e:T.en 146=none
 f:T.fn 146=some Ju
structure Uq (T:Tab):Prop where
 e:T.en 120=none
 f:T.fn 120=some Jz
structure Uy (T:Tab):Prop where
 e:T.en 121=none
 f:T.fn 121=some Yu
 Jz:Uq T
structure Tj (T:Tab):Prop where
 e:T.en 122=none
 f:T.fn 122=some Co
structure Ww (T:Tab):Prop where
 e:T.en 147=none
 f:T.fn 147=some Q6
structure B6 (T:Tab):Prop where
 e:T.en 148=none
 f:T.fn 148=some bytealg_Cutover
structure J5 (T:Tab):Prop where
 e:T.en 91=none
 f:T.fn 91=some Ql
 Q4:Ua T
structure Nk (T:Tab):Prop where
 e:T.en 94=none
 f:T.fn 94=some strings_HasPrefix
 stringslite_HasPrefix:Rv T
structure Fw (T:Tab):Prop where
 e:T.en 97=none
 f:T.fn 97=some strings_Cut
 stringslite_Cut:Fb T
structure Xp (T:Tab):Prop where
 e:T.en 113=none
 f:T.fn 113=some K8
 Jz:Uq T
 Yu:Uy T
structure Ct (T:Tab):Prop where
 e:T.en 119=none
 f:T.fn 119=some Wl
 Co:Tj T
structure V7 (T:Tab):Prop where
 e:T.en 143=none
 f:T.fn 143=some Kq
 strings_IndexByte:Nl T
 Q6:Ww T
 bytealg_Cutover:B6 T
structure Du (T:Tab):Prop where
 e:T.en 100=none
 f:T.fn 100=some Xz
 K8:Xp T
 Rq:O0 T
 Lk:Dc T
 Wp:H6 T
 Rc:Ii T
structure On (T:Tab):Prop where
 e:T.en 112=none
 f:T.fn 112=some Xv
 Wl:Ct T
structure Rm (T:Tab):Prop where
 e:T.en 141=none
 f:T.fn 141=some strings_IndexAny
 Kq:V7 T
 strings_shouldUseASCIISet:L4 T
 strings_makeASCIISet:Xr T
 Ju:Yb T
structure B7 (T:Tab):Prop where
 e:T.en 95=none
 f:T.fn 95=some M5
 Xv:On T
structure Ls (T:Tab):Prop where
 e:T.en 98=none
 f:T.fn 98=some strings_ContainsAny
 strings_IndexAny:Rm T
structure Fv (T:Tab):Prop where
 e:T.en 99=none
 f:T.fn 99=some Rz
 Xz:Du T
structure Nh (T:Tab):Prop where
 e:T.en 75=none
 f:T.fn 75=some Vt
 strings_HasPrefix:Nk T
 M5:B7 T
 Jd:Wi T
structure Ng (T:Tab):Prop where
 e:T.en 76=none
 f:T.fn 76=some Vs
 strings_Cut:Fw T
 M5:B7 T
 Jd:Wi T
structure Lo (T:Tab):Prop where
 e:T.en 77=none
 f:T.fn 77=some Yr
 strings_ContainsAny:Ls T
 Rz:Fv T
 Xz:Du T
structure Om (T:Tab):Prop where
 e:T.en 63=none
 f:T.fn 63=some Hk
 Vt:Nh T
 Vs:Ng T
 Yr:Lo T
end Go.Ev.B

/- Lists that grow: a slice value, and the cells that it holds. -/
namespace Go.Ev
open Go
variable {T : Tab} {st : St}
theorem Frm.Ub (h:st.Wf) (n:Nat):Frm [n] st ⟨Ub st.h n,st.nx⟩:=
 ⟨Nat.le_refl _,⟨fun m q hq=>by
   rw[Kj]at hq
   split at hq
   ·cases hq
   ·exact h.lt _ _ hq,h.nd.sublist Zd9⟩,fun m hm hs=>by
   rw[Kj,if_neg]
   rintro rfl
   exact hs List.mem_cons_self⟩
theorem Frm.refl (h:st.Wf) (S:List Nat):Frm S st st:=(Ext.refl h).fr S
theorem Ext.Vk {st s:St} (a:Ext st s) {n:Nat} {o p:Qb} (hg:Zh s.h n=some p) (hn:st.nx≤n):Ext st ⟨Z7 s.h n o,s.nx⟩:=
 ((a.fr []).trans (Frm.set a.wf hg) (fun m hm=> .inr (by simp at hm;omega))).ext (by simp)
inductive G7 (h:Heap) (v:AV) (n ty es k:Nat) (cs:List AV):Prop where
 | nil:v= .Zc→cs=[]→k=0→G7 h v n ty es k cs
 | buf:v= .slice n 0 k .full→Zh h n=some (.buf ty es cs)→cs.length=k*es→G7 h v n ty es k cs
 | made (ty':Nat):v= .slice n 0 k (.known k)→Zh h n=some (.cells ty' false cs)→cs.length=k*es→G7 h v n ty es k cs
theorem G7.len {h:Heap} {v:AV} {n ty es k:Nat} {cs:List AV} (a:G7 h v n ty es k cs):cs.length=k*es:=by
 rcases a with ⟨_,h2,h3⟩ | ⟨_,_,h⟩ | ⟨_,_,_,h⟩
 ·subst h2;subst h3;simp
 ·exact h
 ·exact h
theorem G7.lenOf {h:Heap} {v:AV} {n ty es k:Nat} {cs:List AV} {ev:AO→AV} {x:AO} (a:G7 h v n ty es k cs) (hx:ev x=v):PO.run ev (.lenOf false x)=some (.int .i64 k):=by
 rcases a with ⟨h1,h2,h3⟩ | ⟨h1,h2,h3⟩ | ⟨ty',h1,h2,h3⟩
 ·subst h3;simp[PO.run,hx,h1]
 ·simp[PO.run,hx,h1]
 ·simp[PO.run,hx,h1]
structure Grown (st:St) (n ty es k:Nat) (cs:List AV) (v:AV) (s:St) (n':Nat):Prop where
 sl:G7 s.h v n' ty es k cs
 Ma:Frm [n] st s
 new:n'=n∨st.nx≤n'
 lt:n<st.nx→n'<s.nx
theorem G7.append (hwf:st.Wf) {v x:AV} {n ty es k j b:Nat} {cs new:List AV} (a:G7 st.h v n ty es k cs) (hx:Vl st.h es x=some (j,new)) (hj:new.length=j*es)
  (hsc:new.all AV.sc=true) (hb:(k+j)*b≤35184372088832) (hb':k+j≤35184372088832) (hm:0<j∨¬∃c,v= .slice n 0 k (.known c)):
  Qt (Vf ty es b st v x) fun v' s=>∃n',Grown st n ty es (k+j) (cs++new) v' s n':=by
 unfold Vf
 rw[hx]
 simp only
 have hnil0:j=0→new=[]:=fun h=>List.length_eq_zero_iff.1 (by rw[hj,h];simp)
 rcases a with ⟨h1,h2,h3⟩ | ⟨h1,h2,h3⟩ | ⟨ty',h1,h2,h3⟩
 ·subst h1;subst h2;subst h3
  simp only[Nat.zero_add]at hb hb'⊢
  by_cases hj0:j=0
  ·rw[if_pos hj0]
   exact⟨n,.nil rfl (by rw[hnil0 hj0];rfl) hj0,.refl hwf _,.inl rfl,id⟩
  ·rw[if_neg hj0,if_pos ⟨hb,hb'⟩]
   refine⟨st.nx,.buf rfl (by simp[Zh]) (by simpa using hj),(Ext.new hwf _).fr _,.inr (Nat.le_refl _),fun _=>Nat.lt_succ_self _⟩
 ·subst h1
  simp only
  rw[if_pos ⟨hb,hb'⟩]
  simp only[h2]
  rw[if_pos ⟨trivial,trivial,trivial,h3,hsc⟩]
  by_cases hj0:j=0
  ·rw[if_pos hj0]
   refine⟨n,?_,.refl hwf _,.inl rfl,id⟩
   subst hj0
   rw[hnil0 rfl]
   exact .buf rfl (by simpa using h2) (by simpa using h3)
  ·rw[if_neg hj0]
   refine⟨st.nx,.buf rfl (by simp[Zh]) (by simp[h3,hj,Nat.add_mul]),?_,.inr (Nat.le_refl _),fun _=>Nat.lt_succ_self _⟩
   exact(Frm.Ub hwf n).trans ((Ext.new (Frm.Ub hwf n).wf _).fr [n]) (by simp)
 ·subst h1
  simp only
  have hj0:0<j:=by
   rcases hm with h | h
   ·exact h
   ·exact absurd ⟨k,rfl⟩ h
  rw[if_pos ⟨hb,hb'⟩,if_neg (by omega)]
  simp only[Qg,h2]
  rw[if_pos (by omega)]
  refine⟨st.nx,.buf rfl (by simp[Zh,←h3]) (by simp[h3,hj,Nat.add_mul]),(Ext.new hwf _).fr _,.inr (Nat.le_refl _),fun _=>Nat.lt_succ_self _⟩
theorem G7.rd {h:Heap} {v:AV} {n ty es k:Nat} {cs:List AV} (a:G7 h v n ty es k cs) {o:Nat} (ho:o<cs.length):Q5 h n o=cs[o]? :=by
 rcases a with ⟨h1,h2,h3⟩ | ⟨h1,h2,h3⟩ | ⟨ty',h1,h2,h3⟩
 ·subst h2;simp at ho
 ·simp[Q5,h2]
 ·simp[Q5,h2]
theorem G7.store (hwf:st.Wf) {v:AV} {n ty es k:Nat} {cs:List AV} (a:G7 st.h v n ty es k cs) {o:Nat} (ho:o<cs.length) {x:AV} (hx:x.sc=true):
  ∃h',Jy st.h n o [x]=some h'∧G7 h' v n ty es k (cs.set o x)∧Frm [n] st ⟨h',st.nx⟩:=by
 rcases a with ⟨h1,h2,h3⟩ | ⟨h1,h2,h3⟩ | ⟨ty',h1,h2,h3⟩
 ·subst h2;simp at ho
 ·exact⟨_,Zaey h2 hx ho,.buf h1 (by rw[Lc h2,if_pos rfl]) (by simpa using h3),.set hwf h2⟩
 ·exact⟨_,Og h2 hx ho,.made ty' h1 (by rw[Lc h2,if_pos rfl]) (by simpa using h3),.set hwf h2⟩
theorem G7.Zb (hwf:st.Wf) {v:AV} {n ty es k c:Nat} {cs:List AV} (a:G7 st.h v n ty es k cs):G7 (Go.Ev.Zb c st.h) v n ty es k cs:=by
 rcases a with ⟨h1,h2,h3⟩ | ⟨h1,h2,h3⟩ | ⟨ty',h1,h2,h3⟩
 ·exact .nil h1 h2 h3
 ·exact .buf h1 (Qh hwf h2 rfl) h3
 ·exact .made ty' h1 (Qh hwf h2 rfl) h3
theorem Zk0:∀(a b:List AV) (o:Nat),o+b.length=a.length→Qd a o b=a.take o++b
 | a,[],o,h=>by simp only[Qd,List.append_nil];rw[List.take_of_length_le (by simpa using Nat.le_of_eq h.symm)]
 | a,v::b,o,h=>by
   simp only[Qd]
   simp only[List.length_cons]at h
   rw[Zk0 _ b (o+1) (by simp;omega)]
   have h1:(a.set o v).take (o+1)=a.take o++[v]:=by
    rw[List.take_set]
    apply List.ext_getElem?
    intro k
    rw[List.getElem?_set]
    by_cases e:o=k
    ·subst e
     rw[if_pos rfl,if_pos (by simp;omega),List.getElem?_append_right (by simp;omega)]
     simp[show min o a.length=o by omega]
    ·rw[if_neg e]
     by_cases hk:k<o
     ·rw[List.getElem?_append_left (by simp;omega),List.getElem?_take,List.getElem?_take]
      rw[if_pos (by omega),if_pos hk]
     ·rw[List.getElem?_eq_none (by simp;omega),List.getElem?_eq_none (by simp;omega)]
   rw[h1,List.append_assoc];rfl
theorem Ze5 {a b:List AV} (h:b.length=a.length):Qd a 0 b=b:=by
 rw[Zk0 a b 0 (by omega)];simp
theorem Zc3:∀(b' b c a:List AV),b'.length=b.length→Qd (a++(b++c)) a.length b'=a++(b'++c)
 | [],[],c,a,_=>rfl
 | v::b',x::b,c,a,h=>by
   simp only[List.length_cons,Nat.add_right_cancel_iff]at h
   have h1:(a++(x::b++c)).set a.length v=(a++[v])++(b++c):=by
    rw[List.set_append_right _ _ (Nat.le_refl _)];simp
   simp only[Qd]
   rw[h1]
   have:=Zc3 b' b c (a++[v]) h
   rw[List.length_append,List.length_singleton]at this
   rw[this];simp
theorem Lu {h:Heap} {n ty k:Nat} {l:Bool} {cs:List AV} (hg:Zh h n=some (.cells ty l cs)) (hk:cs.length=k):Qg h n 0 k=some cs:=by
 simp only[Qg,hg]
 rw[if_pos (by omega),List.drop_zero,List.take_of_length_le (by omega)]
theorem Zlb {h:Heap} {n ty:Nat} {l:Bool} {cs vs:List AV} (hg:Zh h n=some (.cells ty l cs)) (hk:vs.length=cs.length) (hs:vs.all AV.sc=true):Jy h n 0 vs=some (Z7 h n (.cells ty l vs)):=by
 simp only[Jy,hg]
 rw[if_pos ⟨by omega,hs⟩,Ze5 hk]
attribute [go_sem] RO.run NO.run WO.run Dj Qd AV.nb apart
end Go.Ev

/- What the functions of lex tell: octets, regular characters, digits. -/
namespace Go.Ev
open Go
theorem Zo {n:Int} (h1: -9223372036854775808≤n) (h2:n≤9223372036854775807):IntKind.i64.wrap n=n:=Zgp h1 h2
variable {T : Tab} {st : St}
theorem Ao (H:B.Nl T) {s:List UInt8} {c:Int}:call T (.fn 84 [] []) [.str s,.int .u8 c] st=some (.int .i64 (Lib.indexByte s c.toNat.toUInt8),st):=by
 rw[Rn H.en]
 rfl
theorem Zqz (H:B.Nn T) {s:List UInt8} {c:UInt8}:call T (.fn 142 [] []) [.str s,.str [c]] st=some (.int .i64 (Lib.indexByte s c),st):=by
 rw[Rn H.en]
 rfl
def marks:List UInt8:=[0,9,10,12,13,32,40,41,60,62,91,93,123,125,47,37]
def Ap (c:UInt8):Bool:= !(decide (128≤c.toNat) && decide (c.toNat<160)) && decide (Lib.indexByte marks c<0)
def Zt6:List UInt8→Bool
 | []=>true
 | c::r=>Ap c && Zt6 r
theorem Mt {s:List UInt8} {i:Nat} (h:i<s.length):∃c,s[i]? =some c∧s.drop i=c::s.drop (i+1):=⟨s[i],List.getElem?_eq_getElem h,List.drop_eq_getElem_cons h⟩
end Go.Ev

/- Loops over functions on symbolic data. -/
namespace Go.Ev
open Go
variable {T : Tab} {e : Env} {st : St}
theorem Zb9 {f:AO} {ps:List Nat} {assign body:Zv} {Q:Ex→Env→St→Prop}
  (h:Qt (call T (f.ev e) [.yield st.nx] ⟨(st.nx,.loop .ready e ps assign body)::st.h,st.nx+1⟩) fun _ s=>
    (Zh s.h st.nx=some (.loop .ready e ps assign body)∧Q .norm e ⟨Ub s.h st.nx,s.nx⟩)∨(∃x,Zh s.h st.nx=some (.loop (.done x) e ps assign body)∧Q x e ⟨Ub s.h st.nx,s.nx⟩)):
  Res (run T (.rangeFunc f ps assign body) e st) Q:=by
 obtain⟨v,s,h1,h2⟩:=h.elim
 rw[run_eq]
 have h1':Jb T (run T) (f.ev e) [.yield st.nx] ⟨(st.nx,.loop .ready e ps assign body)::st.h,st.nx+1⟩=some (v,s):=h1
 simp only[Zz,h1']
 rcases h2 with ⟨h3,h4⟩ | ⟨x,h3,h4⟩
 ·simp only[h3];exact h4
 ·simp only[h3];exact h4
def yEnd (l:Nat) (env:Env) (ps:List Nat) (assign body:Zv) (Q:AV→St→Prop) (x:Ex) (s:St):Prop:=
 Zh s.h l=some (.loop .busy env ps assign body)∧
  match x with
  | .norm=>Q (.bool true) ⟨Z7 s.h l (.loop .ready env ps assign body),s.nx⟩
  | x=>Q (.bool false) ⟨Z7 s.h l (.loop (.done x) env ps assign body),s.nx⟩
theorem Zi3 {l:Nat} {args:List AV} {env:Env} {ps:List Nat} {assign body:Zv} {Q:AV→St→Prop} (hg:Zh st.h l=some (.loop .ready env ps assign body)) (hl:args.length=ps.length)
  (h:Res (run T assign (L6 env ps args) st) fun x e1 s1=>x= .norm∧Zh s1.h l=some (.loop .ready env ps assign body)∧
    Res (run T body e1 ⟨Z7 s1.h l (.loop .busy env ps assign body),s1.nx⟩) fun x _ s2=>yEnd l env ps assign body Q x s2):Qt (call T (.yield l) args st) Q:=by
 obtain⟨x,e1,s1,h1,rfl,h2,h3⟩:=h.elim
 obtain⟨x,e2,s2,h4,h5,h6⟩:=h3.elim
 simp only[call,Jb,N8,hg]
 rw[if_pos hl]
 simp only[h1,h2,h4,h5]
 cases x with
 | norm=>exact h6
 | exit i=>exact h6
 | ret=>exact h6
@[go_sem] theorem Zacb (e:Env) (t:Nat) (v:AV):L6 e [t] [v]=(t,v)::e:=rfl
@[go_sem] theorem Zacc (e:Env) (t u:Nat) (v w:AV):L6 e [t,u] [v,w]=(u,w)::(t,v)::e:=rfl
theorem Zqa {k:Nat} {mf:Qa} (hen:T.en k=none) (hf:T.fn k=some mf) {first args cap:List AV} (hl:(first++args++cap).length=mf.Zg7) (hr:mf.results=[]) {Q:St→Prop}
  (h:Res (run T mf.body (V0 0 (first++args++cap)) st) fun x _ s=>(x= .norm∨x= .ret)∧Q ⟨Zb st.nx s.h,s.nx⟩):Qt (call T (.fn k first cap) args st) fun _ s=>Q s:=
 Zw hen hf hl (h.mono fun _ _ _ ⟨h1,h2⟩=>⟨h1,.tuple [],by rw[hr];rfl,h2⟩)
end Go.Ev

/- Parts of strings. -/
namespace Go.Ev
open Go
@[go_sem] theorem Zae6 (f:Nat) (a b:List AV):Yg (.fn f a b)=[.fn f a b]:=rfl
@[go_sem] theorem Zada (n:Nat):Yg (.map n)=[.map n]:=rfl
@[go_sem] theorem Zzn:Yg .J8=[.J8]:=rfl
@[go_sem] theorem Zzm:Yg .Vi=[.Vi]:=rfl
@[go_sem] theorem Zzy:Yg .Jx=[.Jx]:=rfl
@[go_sem] theorem Zw8:Yg .K6=[.K6]:=rfl
@[go_sem] theorem Zair (f:Nat) (a b:List AV):(AV.fn f a b).sc=true:=rfl
@[go_sem] theorem Zaif (n:Nat):(AV.map n).sc=true:=rfl
@[go_sem] theorem Zafm:AV.J8.sc=true:=rfl
@[go_sem] theorem Zafl:AV.Vi.sc=true:=rfl
@[go_sem] theorem Zahj:AV.Jx.sc=true:=rfl
@[go_sem] theorem Zac0:AV.K6.sc=true:=rfl
theorem Zdh {s:List UInt8} {j:Int} {k:IntKind} (h0:0≤j) (h1:j≤s.length):C5 s none (some (.int k j))=some (.str (s.take j.toNat)):=by
 simp only[C5,Kw,bnd,Yc]
 rw[if_pos ⟨h0,h1⟩]
 simp
theorem Zce {s:List UInt8} {i:Int} {k:IntKind} (h0:0≤i) (h1:i≤s.length):C5 s (some (.int k i)) none=some (.str (s.drop i.toNat)):=by
 simp only[C5,Kw,bnd,Yc]
 rw[if_pos ⟨h0,h1⟩]
 simp only[Option.some.injEq,AV.str.injEq]
 rw[List.take_of_length_le (by simp)]
theorem Ziw {s:List UInt8} {i j:Int} {k k':IntKind} (h0:0≤i) (h1:i≤j) (h2:j≤s.length):C5 s (some (.int k i)) (some (.int k' j))=some (.str ((s.drop i.toNat).take (j.toNat - i.toNat))):=by
 simp only[C5,Kw,bnd,Yc]
 rw[if_pos ⟨by omega,h2⟩]
 simp only
 rw[if_pos ⟨h0,by omega⟩]
theorem Frm.get' {S:List Nat} {st st':St} (a:Frm S st st') {n:Nat} {o:Qb} (hl:n<st.nx) (h:Zh st.h n=some o) (hn:n∉S):Zh st'.h n=some o:=by
 rw[a.Zd n hl hn,h]
theorem Kk {h:Heap} {n m:Nat} {o p:Qb} (hg:Zh h n=some p) (hne:n≠m):Zh (Z7 h n o) m=Zh h m:=by
 rw[Lc hg,if_neg hne]
theorem Zn {h:Heap} {n:Nat} {o p:Qb} (hg:Zh h n=some p):Zh (Z7 h n o) n=some o:=by
 rw[Lc hg,if_pos rfl]
theorem Ext.Ma {S:List Nat} {st s s':St} (a:Ext st s) (b:Frm S s s') (h:∀n∈S,st.nx≤n):Ext st s':=
 ⟨Nat.le_trans a.nx b.nx,b.wf,fun n hn=>by
   rw[b.Zd n (Nat.lt_of_lt_of_le hn a.nx) (fun hs=>by have:=h n hs;omega),a.Zd n hn]⟩
theorem Zabd {T:Tab} {d:Option Nat} {e:Env} {l:List MI} {K:Env→St→Prop} {v:AV} {s:St} (P:Env→St→Prop) (h:kPut d e (kOps (call T) l P) v s) (hk:∀e s,P e s→K e s):kPut d e (kOps (call T) l K) v s:=by
 simp only[Zaav,Zaat]at h⊢
 obtain⟨e1,s1,h1,h2⟩:=h.elim
 rw[h1]
 exact hk _ _ h2
theorem Zyw {T:Tab} {nm:Nat} {d:Option Nat} {e:Env} {dn:List (Nat×MI)} {l:List RI} {K:Env→St→Prop} {v:AV} {s:St} (P:Env→St→Prop) (h:Zuz nm d e (kR (call T) dn l P) v s) (hk:∀e s,P e s→K e s):Zuz nm d e (kR (call T) dn l K) v s:=by
 simp only[Zyg,Zagu]at h⊢
 obtain⟨e1,s1,h1,h2⟩:=h.elim
 rw[h1]
 exact hk _ _ h2
theorem Zabr {T:Tab} {A C:Zv} {e:Env} {st:St} {Q:Ex→Env→St→Prop} (P:Ex→Env→St→Prop) (hA:∀l,A≠.Zd l) (h1:Res (run T A e st) P) (h2:∀x e s,P x e s→Ztq T C Q x e s):Res (run T (.seq A C) e st) Q:=by
 rw[Xg hA,Zxh]
 exact h1.mono h2
theorem G1 {h:Heap} {n ty:Nat} {l:Bool} {v:AV} (hg:Zh h n=some (.cells ty l [v])):Q5 h n 0=some v:=by simp[Q5,hg]
theorem Zlc {h:Heap} {n ty:Nat} {l:Bool} {u v:AV} (hg:Zh h n=some (.cells ty l [u])) (hs:v.sc=true):Jy h n 0 [v]=some (Z7 h n (.cells ty l [v])):=Zlb hg rfl (by simp[hs])
end Go.Ev

/- Digits are counted: lex.count and the reference's count. -/
namespace Go.Ev
open Go
variable {T : Tab} {st : St}
def Bw (c:UInt8):Nat:=if 48≤c.toNat∧c.toNat≤57 then c.toNat - 48 else if 97≤c.toNat∧c.toNat≤122 then c.toNat - 87 else if 65≤c.toNat∧c.toNat≤90 then c.toNat - 55 else 99
theorem Zaab (c:UInt8):Bw c≤99:=by unfold Bw;(repeat' split) <;> omega
theorem Zsg (H:B.Tj T) (hwf:st.Wf) (c:UInt8):Z9 T st (.fn 122 [] []) [.int .u8 c.toNat] (.int .i64 (Bw c)):=by
 have h:(List.range 256).all (fun c=>Zy6 T0 40 B.Co [.int .u8 c] (.int .i64 (Bw (UInt8.ofNat c))))=true:=by kernel_rfl
 have:=Zit h c
 simp only[UInt8.ofNat_toNat]at this
 exact Zue Zabc H.e H.f hwf rfl this
def Znt (base:Int) (c:UInt8):Int:=if(Bw c:Int)≥base then -1 else Bw c
theorem Znu (H:B.Ct T) {Y:AV} {a b ty tb:Nat} {la lb:Bool} {s:List UInt8} {base:Int} (hs:s.length<9223372036854775807) (P:Nat→St→Prop) (R:St→Prop)
  (hwf:∀i s1,P i s1→s1.Wf) (ha:∀i s1,P i s1→Zh s1.h a=some (.cells ty la [.str s])) (hb:∀i s1,P i s1→Zh s1.h b=some (.cells tb lb [.int .i64 base]))
  (hext:∀i s1 s2,P i s1→Ext s1 s2→P i s2)
  (hY:∀i s1 c,P i s1→s[i]? =some c→Qt (call T Y [.int .i64 (Znt base c)] s1) fun v s2=>(v= .bool true∧P (i+1) s2)∨(v= .bool false∧R s2)):
  ∀(m i:Nat) (e:Env) (st1:St),i+m=s.length→P i st1→Zl e 0=Y→Zl e 1= .ptr a 0→Zl e 2= .ptr b 0→Zl e 7= .int .i64 s.length→Zl e 8= .int .i64 i→
  Res (run T (.loop B.Ra) e st1) fun x e' s'=>(x= .exit 0∧P s.length s')∨(x= .ret∧R s'):=by
 intro m
 induction m with
 | zero=>
   intro i e st1 hi hP g0 g1 g2 g7 g8
   have hil:i=s.length:=by omega
   subst hil
   rw[Zs]
   simp[B.Ra,go_sem,g0,g1,g2,g7,g8,hP]
 | succ m ih=>
   intro i e st1 hi hP g0 g1 g2 g7 g8
   have hil:i<s.length:=by omega
   have hil':(i:Int)<s.length:=by omega
   obtain⟨c,hc,hd⟩:=Mt hil
   have ra:=G1 (ha _ _ hP)
   rw[Zs]
   simp[B.Ra,go_sem,g0,g1,g2,g7,g8,hil',RO.run,ra,hc]
   refine(Zsg H.Co (hwf _ _ hP) c).use fun s1 hs1=> ?_
   have hP1:=hext _ _ _ hP hs1
   have rb:=G1 (hb _ _ hP1)
   have hy:=hY i s1 c hP1 hc
   by_cases hq:base≤(Bw c:Int)
   ·have hdy:Znt base c= -1:=by simp[Znt,hq]
    rw[hdy]at hy
    simp[go_sem,RO.run,rb,hq]
    refine hy.mono ?_
    rintro v s2 (⟨rfl,hP2⟩ | ⟨rfl,hR⟩)
    ·simp[go_sem]
     refine ih (i+1) _ s2 (by omega) hP2 ?_ ?_ ?_ ?_ ?_
     ·simp[go_sem]
     ·simp[go_sem]
     ·simp[go_sem]
     ·simp[go_sem]
     ·simp[go_sem];rw[Zo (by omega) (by omega)]
    ·simp[go_sem,hR]
   ·have hdy:Znt base c=Bw c:=by simp[Znt,hq]
    rw[hdy]at hy
    simp[go_sem,RO.run,rb,hq]
    refine hy.mono ?_
    rintro v s2 (⟨rfl,hP2⟩ | ⟨rfl,hR⟩)
    ·simp[go_sem]
     refine ih (i+1) _ s2 (by omega) hP2 ?_ ?_ ?_ ?_ ?_
     ·simp[go_sem]
     ·simp[go_sem]
     ·simp[go_sem]
     ·simp[go_sem]
     ·simp[go_sem];rw[Zo (by omega) (by omega)]
    ·simp[go_sem,hR]
def N7 (cap:Nat) (base:Int):Nat→List UInt8→Option Nat
 | n,[]=>some n
 | n,c::r=>if(Bw c:Int)≥base then none else N7 cap base (min (n*base.toNat+Bw c) cap) r
def Uk (base:Int) (s:List UInt8):Nat×Bool:=
 match N7 1099511627776 base 0 s with
 | some n=>(n,!decide (s=[]))
 | none=>(0,false)
theorem Zqg (H:B.On T) (hwf:st.Wf) {s:List UInt8} {base:Int} {Q:AV→St→Prop}
  (h:Q (.fn 119 [] [.ptr st.nx 0,.ptr (st.nx+1) 0]) ⟨(st.nx+1,.cells 3 false [.int .i64 base])::(st.nx,.cells 9 false [.str s])::st.h,st.nx+2⟩):
  Qt (call T (.fn 112 [] []) [.str s,.int .i64 base] st) Q:=by
 refine Zw H.e H.f rfl ?_
 have hd:Zb st.nx ((st.nx+1,Qb.cells 3 false [.int .i64 base])::(st.nx,.cells 9 false [.str s])::st.h)=(st.nx+1,Qb.cells 3 false [.int .i64 base])::(st.nx,.cells 9 false [.str s])::st.h:=by
  have:K3 st.nx ((st.nx+1,Qb.cells 3 false [.int .i64 base])::(st.nx,.cells 9 false [.str s])::st.h)=[]:=by
   simp only[K3]
   exact Gw fun n o ho=>hwf.lt n o ho
  rw[Us,this,Zaj]
 simp[B.Xv,go_sem,NO.run,AV.nb,hd]
 exact h
theorem Zx7 {S:List Nat} {st s:St} {c:Nat} (h:Frm S st s) (hc:st.nx≤c):Frm S st ⟨Zb c s.h,s.nx⟩:=
 ⟨h.nx,h.wf.Zb _,fun n hn hs=>by rw[Ki (by omega),h.Zd n hn hs]⟩
theorem Ty (H:B.B7 T) (hwf:st.Wf) {s:List UInt8} (hs:s.length<9223372036854775807) {base:Int} (h0:0≤base) (h1:base≤1000000):
  Z9 T st (.fn 95 [] []) [.str s,.int .i64 base] (.tuple [.int .i64 (Uk base s).1,.bool (Uk base s).2]):=by
 refine Zm H.e H.f rfl ?_
 have x1:=Ext.new hwf (.cells 3 true [.int .i64 base])
 have x2:=x1.trans (Ext.new x1.wf (.cells 3 true [.int .i64 0]))
 have x3:=x2.trans (Ext.new x2.wf (.cells 4 true [.bool false]))
 have x4:=x3.trans (Ext.new x3.wf (.cells 3 true [.int .i64 0]))
 simp only[Nat.add_assoc,Nat.reduceAdd]at x2 x3 x4
 simp[B.M5,go_sem,NO.run,AV.nb,WO.run,Jy,Zg,Zak,Qd,RO.run,Q5,Nat.add_assoc]
 refine Zqg H.Xv x4.wf ?_
 simp[go_sem,Nat.add_assoc]
 refine Zb9 ?_
 simp[go_sem,Nat.add_assoc]
 refine Zqa H.Xv.Wl.e H.Xv.Wl.f rfl rfl ?_
 have x5:=x4.trans (Ext.new x4.wf (.cells 9 false [.str s]))
 have x6:=x5.trans (Ext.new x5.wf (.cells 3 false [.int .i64 base]))
 simp only[Nat.add_assoc,Nat.reduceAdd]at x5 x6
 generalize hE:([(10,AV.fn 119 [] [.ptr (st.nx+4) 0,.ptr (st.nx+5) 0]),(9,.int .i64 base),(8,.str s),(6,.ptr (st.nx+3) 0),(5,.ptr (st.nx+2) 0),(4,.ptr (st.nx+1) 0),(3,.ptr st.nx 0),(0,.str s),(1,.int .i64 base)]:Env)=E
 have q0:Zl E 0= .str s:=by rw[←hE];simp[go_sem]
 have q3:Zl E 3= .ptr st.nx 0:=by rw[←hE];simp[go_sem]
 have q4:Zl E 4= .ptr (st.nx+1) 0:=by rw[←hE];simp[go_sem]
 have q5:Zl E 5= .ptr (st.nx+2) 0:=by rw[←hE];simp[go_sem]
 have q6:Zl E 6= .ptr (st.nx+3) 0:=by rw[←hE];simp[go_sem]
 clear hE
 have x7:=x6.trans (Ext.new x6.wf (.loop .ready E [11] (.Ze [⟨some 7,none,.p (.Za (.t 11))⟩]) B.Yo))
 simp only[Nat.add_assoc,Nat.reduceAdd]at x7
 generalize hS:(⟨(st.nx+6,Qb.loop .ready E [11] (.Ze [⟨some 7,none,.p (.Za (.t 11))⟩]) B.Yo)::(st.nx+5,.cells 3 false [.int .i64 base])::(st.nx+4,.cells 9 false [.str s])::
  (st.nx+3,.cells 3 true [.int .i64 0])::(st.nx+2,.cells 4 true [.bool false])::(st.nx+1,.cells 3 true [.int .i64 0])::(st.nx,.cells 3 true [.int .i64 base])::st.h,st.nx+7⟩:St)=st7 at x7⊢
 have n7:st7.nx=st.nx+7:=by rw[←hS]
 have gl:Zh st7.h (st.nx+6)=some (.loop .ready E [11] (.Ze [⟨some 7,none,.p (.Za (.t 11))⟩]) B.Yo):=by rw[←hS];simp[Zg]
 have gb:Zh st7.h (st.nx+5)=some (.cells 3 false [.int .i64 base]):=by rw[←hS];simp[Zg]
 have ga:Zh st7.h (st.nx+4)=some (.cells 9 false [.str s]):=by rw[←hS];simp[Zg]
 have gn:Zh st7.h (st.nx+3)=some (.cells 3 true [.int .i64 0]):=by rw[←hS];simp[Zg]
 have g2:Zh st7.h (st.nx+2)=some (.cells 4 true [.bool false]):=by rw[←hS];simp[Zg]
 have g1:Zh st7.h (st.nx+1)=some (.cells 3 true [.int .i64 0]):=by rw[←hS];simp[Zg]
 have g0:Zh st7.h st.nx=some (.cells 3 true [.int .i64 base]):=by rw[←hS];simp[Zg]
 clear hS x1 x2 x3 x4 x5 x6
 have ra:=G1 ga
 simp[B.Wl,go_sem,RO.run,ra]
 refine(Znu H.Xv.Wl (Y:= .yield (st.nx+6)) (a:=st.nx+4) (b:=st.nx+5) (ty:=9) (tb:=3) (la:=false) (lb:=false) (s:=s) (base:=base) hs
  (fun i s1=>∃v,N7 1099511627776 base 0 s=N7 1099511627776 base v (s.drop i)∧v≤1099511627776∧Frm [st.nx+3,st.nx+6] st7 s1∧
    Zh s1.h (st.nx+6)=some (.loop .ready E [11] (.Ze [⟨some 7,none,.p (.Za (.t 11))⟩]) B.Yo)∧Zh s1.h (st.nx+3)=some (.cells 3 true [.int .i64 v]))
  (fun s1=>N7 1099511627776 base 0 s=none∧Frm [st.nx+1,st.nx+2,st.nx+3,st.nx+6] st7 s1∧Zh s1.h (st.nx+6)=some (.loop (.done .ret) E [11] (.Ze [⟨some 7,none,.p (.Za (.t 11))⟩]) B.Yo)∧
    Zh s1.h (st.nx+1)=some (.cells 3 true [.int .i64 0])∧Zh s1.h (st.nx+2)=some (.cells 4 true [.bool false]))
  ?_ ?_ ?_ ?_ ?_ s.length 0 _ st7 (by simp) ?_ ?_ ?_ ?_ ?_ ?_).mono ?_
 ·rintro i s1 ⟨v,_,_,hf,_⟩;exact hf.wf
 ·rintro i s1 ⟨v,_,_,hf,_⟩;exact hf.get' (by omega) ga (by simp)
 ·rintro i s1 ⟨v,_,_,hf,_⟩;exact hf.get' (by omega) gb (by simp)
 ·rintro i s1 s2 ⟨v,h1,h2,hf,h3,h4⟩ hx
  exact⟨v,h1,h2,hf.trans (hx.fr []) (by simp),hx.get hf.wf h3,hx.get hf.wf h4⟩
 ·rintro i s1 c ⟨v,k1,k2,hf,k3,k4⟩ hc
  have hil:i<s.length:=(List.getElem?_eq_some_iff.1 hc).1
  have hd:s.drop i=c::s.drop (i+1):=by
   rw[List.drop_eq_getElem_cons hil,(List.getElem?_eq_some_iff.1 hc).2]
  have hnx:=hf.nx
  have hwl:=Frm.set hf.wf k3 (o:= .loop .busy E [11] (.Ze [⟨some 7,none,.p (.Za (.t 11))⟩]) B.Yo)
  have fb:=hf.trans hwl (by simp)
  refine Zi3 k3 rfl ?_
  simp[go_sem,k3]
  generalize hB:(⟨Z7 s1.h (st.nx+6) (Qb.loop .busy E [11] (.Ze [⟨some 7,none,.p (.Za (.t 11))⟩]) B.Yo),s1.nx⟩:St)=s2 at fb⊢
  have nb:s2.nx=s1.nx:=by rw[←hB]
  have bl:Zh s2.h (st.nx+6)=some (.loop .busy E [11] (.Ze [⟨some 7,none,.p (.Za (.t 11))⟩]) B.Yo):=by rw[←hB];exact Zn k3
  have bn:Zh s2.h (st.nx+3)=some (.cells 3 true [.int .i64 v]):=by rw[←hB];exact(Kk k3 (by omega)).trans k4
  have bb:=fb.get' (by omega) gb (by simp)
  have b1:=fb.get' (by omega) g1 (by simp)
  have b2:=fb.get' (by omega) g2 (by simp)
  have b0:=fb.get' (by omega) g0 (by simp)
  clear hB
  by_cases hq:base≤(Bw c:Int)
  ·have hdy:Znt base c= -1:=by simp[Znt,hq]
   have w1:=Zlc b1 (v:= .int .i64 0) rfl
   have f1:=Frm.set fb.wf b1 (o:= .cells 3 true [.int .i64 0])
   have b2':=(Kk (m:=st.nx+2) b1 (o:= .cells 3 true [.int .i64 0]) (by omega)).trans b2
   have w2:=Zlc b2' (v:= .bool false) rfl
   have f2:=Frm.set (st:=⟨_,_⟩) f1.wf b2' (o:= .cells 4 true [.bool false])
   have b6':=(Kk (m:=st.nx+6) b2' (o:= .cells 4 true [.bool false]) (by omega)).trans ((Kk (m:=st.nx+6) b1 (o:= .cells 3 true [.int .i64 0]) (by omega)).trans bl)
   simp[B.Yo,go_sem,hdy,q0,q3,q4,q5,q6,WO.run,w1,w2,yEnd]
   refine⟨b6',by rw[k1,hd];simp[N7,hq],?_,Zn b6',?_,?_⟩
   ·exact(((fb.mono (R:=[st.nx+1,st.nx+2,st.nx+3,st.nx+6]) (by simp)).trans f1 (by simp)).trans f2 (by simp)).trans (Frm.set (st:=⟨_,_⟩) f2.wf b6') (by simp)
   ·rw[Kk b6' (by omega),Kk b2' (by omega),Zn b1]
   ·rw[Kk b6' (by omega),Zn b2']
  ·have hdy:Znt base c=Bw c:=by simp[Znt,hq]
   have hnn:¬(Bw c:Int)<0:=by omega
   have hle:=Zaab c
   have hm:(v:Int)*base≤1099511627776*1000000:=Int.mul_le_mul (by omega) h1 h0 (by omega)
   have hm0:0≤(v:Int)*base:=Int.mul_nonneg (by omega) h0
   have e1:IntKind.i64.wrap ((v:Int)*base)=v*base:=Zo (by omega) (by omega)
   have e2:IntKind.i64.wrap ((v:Int)*base+Bw c)=v*base+Bw c:=Zo (by omega) (by omega)
   have e3:(if(1099511627776:Int)<v*base+Bw c then 1099511627776 else v*base+Bw c)=((min (v*base.toNat+Bw c) 1099511627776:Nat):Int):=by
    have:((v*base.toNat:Nat):Int)=v*base:=by rw[Int.natCast_mul,Int.toNat_of_nonneg h0]
    split <;> omega
   have w1:=Zlc bn (v:= .int .i64 ((min (v*base.toNat+Bw c) 1099511627776:Nat):Int)) rfl
   have f1:=Frm.set fb.wf bn (o:= .cells 3 true [.int .i64 ((min (v*base.toNat+Bw c) 1099511627776:Nat):Int)])
   have b6':=(Kk (m:=st.nx+6) bn (o:= .cells 3 true [.int .i64 ((min (v*base.toNat+Bw c) 1099511627776:Nat):Int)]) (by omega)).trans bl
   simp[B.Yo,go_sem,hdy,q0,q3,q4,q5,q6,RO.run,WO.run,G1 bn,G1 b0,hnn,e1,e2]
   rw[e3,w1]
   simp[go_sem,yEnd]
   refine⟨b6',min (v*base.toNat+Bw c) 1099511627776,by rw[k1,hd];simp[N7,hq],by omega,?_,Zn b6',?_⟩
   ·exact(fb.trans f1 (by simp)).trans (Frm.set (st:=⟨_,_⟩) f1.wf b6') (by simp)
   ·rw[Kk b6' (by omega),Zn bn]
 ·exact⟨0,by simp,by omega,.refl x7.wf _,gl,gn⟩
 ·simp[go_sem]
 ·simp[go_sem]
 ·simp[go_sem]
 ·simp[go_sem]
 ·simp[go_sem]
 ·have hnl:(Ext.refl x7.wf).nx=(Ext.refl x7.wf).nx:=rfl
  have hlast:∀(s2:St) (o:Qb) (S:List Nat),Frm S st7 s2→Zh s2.h (st.nx+6)=some o→Zh (Zb st7.nx s2.h) (st.nx+6)=some o∧Frm ((st.nx+6)::S) st7 ⟨Ub (Zb st7.nx s2.h) (st.nx+6),s2.nx⟩:=fun s2 o S hf hg=>by
   have f1:=Zx7 hf (Nat.le_refl _)
   refine⟨by rw[Ki (by omega)];exact hg,?_⟩
   exact(f1.mono (R:=(st.nx+6)::S) (fun n hn=>List.mem_cons_of_mem _ hn)).trans (Frm.Ub (st:=⟨_,_⟩) f1.wf (st.nx+6)) (by simp)
  rintro x e s2 (⟨rfl,v,k1,k2,hf,k3,k4⟩ | ⟨rfl,k1,hf,k3,k4,k5⟩)
  ·obtain⟨m1,m2⟩:=hlast s2 _ _ hf k3
   have m4:Zh (Ub (Zb st7.nx s2.h) (st.nx+6)) (st.nx+3)=some (.cells 3 true [.int .i64 v]):=by
    rw[Kj,if_neg (by omega),Ki (by omega)];exact k4
   have m5:=m2.get' (by omega) g1 (by simp)
   have m6:=m2.get' (by omega) g2 (by simp)
   have w1:=Zlc m5 (v:= .int .i64 v) rfl
   have f1:=Frm.set (st:=⟨_,_⟩) m2.wf m5 (o:= .cells 3 true [.int .i64 v])
   have m6':=(Kk (m:=st.nx+2) m5 (o:= .cells 3 true [.int .i64 v]) (by omega)).trans m6
   have w2:=Zlc m6' (v:= .bool !decide (s=[])) rfl
   have f2:=Frm.set (st:=⟨_,_⟩) f1.wf m6' (o:= .cells 4 true [.bool !decide (s=[])])
   have m7:=Zn m6' (o:= .cells 4 true [.bool !decide (s=[])])
   have m8:=(Kk (m:=st.nx+1) m6' (o:= .cells 4 true [.bool !decide (s=[])]) (by omega)).trans (Zn m5 (o:= .cells 3 true [.int .i64 v]))
   have hc:Uk base s=(v,!decide (s=[])):=by
    simp only[Uk,k1]
    simp[N7]
   have hq:Uv s []=decide (s=[]):=by cases s <;> rfl
   simp[go_sem,m1,G1 m4,WO.run,w1,w2,Zt,Qn,Jk,RO.run,G1 m7,G1 m8,hc,hq,q0,q4,q5,q6]
   exact x7.Ma (((m2.mono (R:=[st.nx+1,st.nx+2,st.nx+3,st.nx+6]) (by simp)).trans f1 (by simp)).trans f2 (by simp)) (by simp)
  ·obtain⟨m1,m2⟩:=hlast s2 _ _ hf k3
   have m4:Zh (Ub (Zb st7.nx s2.h) (st.nx+6)) (st.nx+1)=some (.cells 3 true [.int .i64 0]):=by
    rw[Kj,if_neg (by omega),Ki (by omega)];exact k4
   have m5:Zh (Ub (Zb st7.nx s2.h) (st.nx+6)) (st.nx+2)=some (.cells 4 true [.bool false]):=by
    rw[Kj,if_neg (by omega),Ki (by omega)];exact k5
   have hc:Uk base s=(0,false):=by simp only[Uk,k1]
   simp[go_sem,m1,Zt,Qn,Jk,RO.run,G1 m4,G1 m5,q4,q5,hc]
   exact x7.Ma m2 (by simp)
end Go.Ev

/- Number texts: ints, with and without a base. -/
namespace Go.Ev
open Go
variable {T : Tab} {st : St}
def R7 (k n:Int) (t:List UInt8):List AV:=[.int .i64 k,.int .i64 n,.str t]
def X5 (k n:Int) (t:List UInt8) (e:Int):AV:= .tuple [.agg (R7 k n t),.int .i64 e]
theorem V4 {h:Heap} {m ty:Nat} {l:Bool} {k n k' n':Int} {t t':List UInt8} (hg:Zh h m=some (.cells ty l [.int .i64 k,.int .i64 n,.str t])):
  Jy h m 0 [.int .i64 k',.int .i64 n',.str t']=some (Z7 h m (.cells ty l [.int .i64 k',.int .i64 n',.str t'])):=Zlb hg rfl rfl
theorem Ve {h:Heap} {m ty:Nat} {l:Bool} {k n:Int} {t:List UInt8} (hg:Zh h m=some (.cells ty l [.int .i64 k,.int .i64 n,.str t])):
  Qg h m 0 3=some [.int .i64 k,.int .i64 n,.str t]:=Lu hg rfl
attribute [go_sem] Dj Qd AV.nb apart
theorem Zpi (h:Heap) (m ty:Nat) (l:Bool) (a b c:AV):Qg ((m,.cells ty l [a,b,c])::h) m 0 3=some [a,b,c]:=Lu (ty:=ty) (l:=l) (by simp[Zg]) rfl
theorem Zpw (h:Heap) (m ty:Nat) (l:Bool) (a b c:AV) {k n:Int} {t:List UInt8}:Jy ((m,.cells ty l [a,b,c])::h) m 0 [.int .i64 k,.int .i64 n,.str t]=some ((m,.cells ty l [.int .i64 k,.int .i64 n,.str t])::h):=by
 rw[Zlb (ty:=ty) (l:=l) (cs:=[a,b,c]) (vs:=[.int .i64 k,.int .i64 n,.str t]) (by simp[Zg]) rfl rfl];simp[Zak]
def To (n:Int) (len:Nat):AV:=if 40<len∨n< -2147483648∨2147483647<n then X5 0 0 [] 26 else X5 1 n [] 0
theorem Zdg (H:B.Wi T) (hwf:st.Wf) {s:List UInt8} {n:Int}:Z9 T st (.fn 96 [] []) [.str s,.int .i64 n] (To n s.length):=by
 refine Zm H.e H.f rfl ?_
 have hx:=fun o=>Ext.new hwf o
 by_cases h1:(40:Int)<s.length
 ·have h1':40<s.length:=by omega
  simp[B.Jd,go_sem,NO.run,WO.run,Zpw,Zpi,Zt,Qn,Jk,RO.run,h1,h1',To,X5,R7,hx]
 ·have h1':¬40<s.length:=by omega
  by_cases h2:n< -2147483648
  ·simp[B.Jd,go_sem,NO.run,WO.run,Zpw,Zpi,Zt,Qn,Jk,RO.run,h1,h1',h2,To,X5,R7,hx]
  ·by_cases h3:2147483647<n
   ·simp[B.Jd,go_sem,NO.run,WO.run,Zpw,Zpi,Zt,Qn,Jk,RO.run,h1,h1',h2,h3,To,X5,R7,hx]
   ·simp[B.Jd,go_sem,NO.run,WO.run,Zpw,Zpi,Zt,Qn,Jk,RO.run,h1,h1',h2,h3,To,X5,R7,hx]
theorem Zzh {c d:UInt8} (h:¬c=d) {n:Int} (hn:(d.toNat:Int)=n):¬(c.toNat:Int)=n:=fun e=>h (UInt8.toNat_inj.1 (by omega))
def Tq (d:UInt8):List UInt8→Bool
 | []=>false
 | c::_=>decide (c=d)
theorem Zmc (H:B.Nk T) (hwf:st.Wf) {s:List UInt8} {d:UInt8} (hs:s.length<9223372036854775807):Z9 T st (.fn 94 [] []) [.str s,.str [d]] (.bool (Tq d s)):=by
 refine Zm H.e H.f rfl ?_
 simp[B.strings_HasPrefix,go_sem]
 have:Z9 T st (.fn 123 [] []) [.str s,.str [d]] (.bool (Tq d s)):=by
  refine Zm H.stringslite_HasPrefix.e H.stringslite_HasPrefix.f rfl ?_
  cases s with
  | nil=>simp[B.stringslite_HasPrefix,go_sem,Tq,Ext.refl hwf]
  | cons c r=>
    have h1:(1:Int)≤r.length+1:=by omega
    have hq:C5 (c::r) none (some (.int .i64 1))=some (.str [c]):=by
     rw[Zdh (by omega) (by simp;omega)];rfl
    simp[B.stringslite_HasPrefix,go_sem,Tq,h1,hq,Uv,Ext.refl hwf]
    exact UInt8.toNat_inj
 refine this.use fun s1 hs1=> ?_
 simp[go_sem,hs1]
def Bs:List UInt8→List UInt8×Int
 | 45::r=>(r, -1)
 | 43::r=>(r,1)
 | s=>(s,1)
def Zk8 (s:List UInt8):AV:=
 if(Uk 10 (Bs s).1).2=true then To ((Bs s).2*(Uk 10 (Bs s).1).1) s.length else X5 0 0 [] 5
theorem Zz7 (base:Int) (s:List UInt8):(Uk base s).1≤1099511627776:=by
 have:∀(s:List UInt8) (v n:Nat),v≤1099511627776→N7 1099511627776 base v s=some n→n≤1099511627776:=by
  intro s
  induction s with
  | nil=>intro v n hv h;simp only[N7,Option.some.injEq]at h;omega
  | cons c r ih=>
    intro v n hv h
    simp only[N7]at h
    split at h
    ·cases h
    ·exact ih _ _ (by omega) h
 unfold Uk
 split
 ·rename_i n h;exact this s 0 n (by omega) h
 ·simp
theorem Zsj (H:B.Nh T) (hwf:st.Wf) {s:List UInt8} (hs:s.length<9223372036854775807):Z9 T st (.fn 75 [] []) [.str s] (Zk8 s):=by
 refine Zm H.e H.f rfl ?_
 have hx:=Ext.new hwf (.cells 134 true [.int .i64 0,.int .i64 0,.str []])
 have hg:Zh ((st.nx,Qb.cells 134 true [.int .i64 0,.int .i64 0,.str []])::st.h) st.nx=some (.cells 134 true [.int .i64 0,.int .i64 0,.str []]):=by simp[Zg]
 simp[B.Vt,go_sem,NO.run]
 refine(Zmc H.strings_HasPrefix hx.wf hs).use fun s1 hs1=> ?_
 have hg1:=hs1.get hx.wf hg
 have e1:=hx.trans hs1
 have hcnt:=fun(t:List UInt8) (ht:t.length≤s.length)=>Ty H.M5 e1.wf (s:=t) (by omega) (base:=10) (by omega) (by omega)
 have fin:∀(t:List UInt8) (sg:Int),(sg=1∨sg= -1)→Bs s=(t,sg)→t.length≤s.length→(∀{Q:AV→St→Prop},(∀s2,Ext s1 s2→Q (.tuple [.int .i64 (Uk 10 t).1,.bool (Uk 10 t).2]) s2)→Qt (call T (.fn 95 [] []) [.str t,.int .i64 10] s1) Q)∧
   IntKind.i64.wrap (sg*(Uk 10 t).1)=sg*(Uk 10 t).1:=by
  intro t sg h1 h2 h3
  have:=Zz7 10 t
  refine⟨fun hQ=>(hcnt t h3).use hQ,?_⟩
  rcases h1 with rfl | rfl
  ·rw[Int.one_mul];exact Zo (by omega) (by omega)
  ·exact Zo (by omega) (by omega)
 have tail:∀(t:List UInt8) (sg:Int) (s2:St),Bs s=(t,sg)→Ext s1 s2→Zh s2.h st.nx=some (.cells 134 true [.int .i64 0,.int .i64 0,.str []])∧Ext st s2∧
   (∀{Q:AV→St→Prop},(∀s3,Ext s2 s3→Q (To (sg*(Uk 10 t).1) s.length) s3)→Qt (call T (.fn 96 [] []) [.str s,.int .i64 (sg*(Uk 10 t).1)] s2) Q)∧
   Zk8 s=(if(Uk 10 t).2=true then To (sg*(Uk 10 t).1) s.length else X5 0 0 [] 5):=by
  intro t sg s2 h1 h2
  exact⟨h2.get e1.wf hg1,e1.trans h2,fun hQ=>(Zdg H.Jd h2.wf).use hQ,by simp only[Zk8,h1]⟩
 have ansC:∀n k,∃a b c e,To n k= .tuple [.agg [.int .i64 a,.int .i64 b,.str c],.int .i64 e]:=by
  intro n k
  unfold To
  split <;> exact⟨_,_,_,_,rfl⟩
 match s,hs with
 | [],_=>
   obtain⟨f1,f2⟩:=fin [] 1 (.inl rfl) rfl (by simp)
   simp[go_sem,Tq,Uv]
   refine f1 fun s2 hs2=> ?_
   obtain⟨t1,t2,t3,t4⟩:=tail [] 1 s2 rfl hs2
   simp[go_sem,Uk,N7,V4 t1,WO.run,Zt,Qn,Jk,RO.run,Ve (Zn t1),t4,X5,R7]
   exact t2.Vk t1 (Nat.le_refl _)
 | c::r,hs=>
   have hsub:C5 (c::r) (some (.int .i64 1)) none=some (.str r):=by rw[Zce (by omega) (by simp;omega)];rfl
   have done':∀(t:List UInt8) (sg:Int) (s2:St),Bs (c::r)=(t,sg)→Ext s1 s2→(Uk 10 t).2=true→∀(Q:AV→St→Prop),(∀a b d e s3,To (sg*(Uk 10 t).1) (r.length+1)= .tuple [.agg [.int .i64 a,.int .i64 b,.str d],.int .i64 e]→
     Zh s3.h st.nx=some (.cells 134 true [.int .i64 0,.int .i64 0,.str []])→Ext st s3→Q (.tuple [.agg [.int .i64 a,.int .i64 b,.str d],.int .i64 e]) s3)→Qt (call T (.fn 96 [] []) [.str (c::r),.int .i64 (sg*(Uk 10 t).1)] s2) Q:=by
    intro t sg s2 h1 h2 h3 Q hQ
    obtain⟨t1,t2,t3,t4⟩:=tail t sg s2 h1 h2
    obtain⟨a,b,d,e,h4⟩:=ansC (sg*(Uk 10 t).1) (r.length+1)
    refine t3 fun s3 hs3=> ?_
    simp only[List.length_cons,h4]
    exact hQ a b d e s3 h4 (hs3.get t2.wf t1) (t2.trans hs3)
   by_cases h45:c=45
   ·subst h45
    obtain⟨f1,f2⟩:=fin r (-1) (.inr rfl) rfl (by simp)
    simp[go_sem,Tq,Uv,hsub]
    refine f1 fun s2 hs2=> ?_
    obtain⟨t1,t2,t3,t4⟩:=tail r (-1) s2 rfl hs2
    cases hc:(Uk 10 r).2 with
    | false=>
      simp[go_sem,hc,V4 t1,WO.run,Zt,Qn,Jk,RO.run,Ve (Zn t1),t4,X5,R7]
      exact t2.Vk t1 (Nat.le_refl _)
    | true=>
      simp only[Int.neg_one_mul]at f2
      simp[go_sem,hc,f2]
      have hd:=done' r (-1) s2 rfl hs2 hc
      simp only[Int.neg_one_mul]at hd
      refine hd _ fun a b d e s3 h4 h5 h6=> ?_
      rw[Int.neg_one_mul]at t4
      simp[go_sem,V4 h5,WO.run,Zt,Qn,Jk,RO.run,Ve (Zn h5),t4,hc,h4]
      exact h6.Vk h5 (Nat.le_refl _)
   ·have h45i:¬(c.toNat:Int)=45:=Zzh h45 rfl
    by_cases h43:c=43
    ·subst h43
     obtain⟨f1,f2⟩:=fin r 1 (.inl rfl) rfl (by simp)
     simp[go_sem,Tq,Uv,hsub]
     refine f1 fun s2 hs2=> ?_
     obtain⟨t1,t2,t3,t4⟩:=tail r 1 s2 rfl hs2
     cases hc:(Uk 10 r).2 with
     | false=>
       simp[go_sem,hc,V4 t1,WO.run,Zt,Qn,Jk,RO.run,Ve (Zn t1),t4,X5,R7]
       exact t2.Vk t1 (Nat.le_refl _)
     | true=>
       simp only[Int.one_mul]at f2
       simp[go_sem,hc,f2]
       have hd:=done' r 1 s2 rfl hs2 hc
       simp only[Int.one_mul]at hd
       refine hd _ fun a b d e s3 h4 h5 h6=> ?_
       rw[Int.one_mul]at t4
       simp[go_sem,V4 h5,WO.run,Zt,Qn,Jk,RO.run,Ve (Zn h5),t4,hc,h4]
       exact h6.Vk h5 (Nat.le_refl _)
    ·have h43i:¬(c.toNat:Int)=43:=Zzh h43 rfl
     have hu:Bs (c::r)=(c::r,1):=by
      unfold Bs
      split
      ·rename_i h;cases h;exact absurd rfl h45
      ·rename_i h;cases h;exact absurd rfl h43
      ·rfl
     obtain⟨f1,f2⟩:=fin (c::r) 1 (.inl rfl) hu (by simp)
     simp[go_sem,Tq,Uv,hsub,h45,h45i,h43i]
     refine f1 fun s2 hs2=> ?_
     obtain⟨t1,t2,t3,t4⟩:=tail (c::r) 1 s2 hu hs2
     cases hc:(Uk 10 (c::r)).2 with
     | false=>
       simp[go_sem,hc,V4 t1,WO.run,Zt,Qn,Jk,RO.run,Ve (Zn t1),t4,X5,R7]
       exact t2.Vk t1 (Nat.le_refl _)
     | true=>
       simp only[Int.one_mul]at f2
       simp[go_sem,hc,f2]
       have hd:=done' (c::r) 1 s2 hu hs2 hc
       simp only[Int.one_mul]at hd
       refine hd _ fun a b d e s3 h4 h5 h6=> ?_
       rw[Int.one_mul]at t4
       simp[go_sem,V4 h5,WO.run,Zt,Qn,Jk,RO.run,Ve (Zn h5),t4,hc,h4]
       exact h6.Vk h5 (Nat.le_refl _)
end Go.Ev

/- Radix texts. -/
namespace Go.Ev
open Go
variable {T : Tab} {st : St}
def Nt (d:UInt8) (s:List UInt8):List UInt8×List UInt8×Bool:=
 if 0≤Lib.indexByte s d then(s.take (Lib.indexByte s d).toNat,s.drop ((Lib.indexByte s d).toNat+1),true)else(s,[],false)
theorem Zb1:∀(s:List UInt8) (d:UInt8),Lib.indexByte s d<s.length
 | [],_=>by simp[Lib.indexByte]
 | c::r,d=>by
   have:=Zb1 r d
   simp only[Lib.indexByte,List.length_cons]
   split
   ·omega
   ·split <;> omega
theorem Zvp (H:B.Fw T) (hwf:st.Wf) {s:List UInt8} {d:UInt8} (hs:s.length<9223372036854775806):
  Z9 T st (.fn 97 [] []) [.str s,.str [d]] (.tuple [.str (Nt d s).1,.str (Nt d s).2.1,.bool (Nt d s).2.2]):=by
 refine Zm H.e H.f rfl ?_
 have:∀st:St,st.Wf→Z9 T st (.fn 140 [] []) [.str s,.str [d]] (.tuple [.str (Nt d s).1,.str (Nt d s).2.1,.bool (Nt d s).2.2]):=by
  intro st hwf
  refine Zm H.stringslite_Cut.e H.stringslite_Cut.f rfl ?_
  have hlt:=Zb1 s d
  have hi:=fun st=>Zqz (st:=st) H.stringslite_Cut.stringslite_Index (s:=s) (c:=d)
  by_cases h:0≤Lib.indexByte s d
  ·have h1:=Zdh (s:=s) (j:=Lib.indexByte s d) (k:= .i64) h (by omega)
   have h2:=Zce (s:=s) (i:=Lib.indexByte s d+1) (k:= .i64) (by omega) (by omega)
   have h3:(Lib.indexByte s d+1).toNat=(Lib.indexByte s d).toNat+1:=by omega
   have h4:IntKind.i64.wrap (Lib.indexByte s d+1)=Lib.indexByte s d+1:=Zo (by omega) (by omega)
   simp[B.stringslite_Cut,go_sem,hi,h,h1,h2,h4,Nt,h3,Ext.aside hwf]
  ·simp[B.stringslite_Cut,go_sem,hi,h,Nt,Ext.refl hwf]
 simp[B.strings_Cut,go_sem]
 refine(this st hwf).use fun s1 hs1=> ?_
 simp[go_sem,hs1]
def Zkr (s:List UInt8):AV:=
 if(Nt 35 s).2.2=false∨(Uk 10 (Nt 35 s).1).2=false∨2<(Nt 35 s).1.length∨(Uk 10 (Nt 35 s).1).1<2∨36<(Uk 10 (Nt 35 s).1).1 then X5 0 0 [] 5
 else if(Uk (Uk 10 (Nt 35 s).1).1 (Nt 35 s).2.1).2=true then To (Uk (Uk 10 (Nt 35 s).1).1 (Nt 35 s).2.1).1 s.length
 else X5 0 0 [] 5
theorem ansC (n:Int) (k:Nat):∃a b c e,To n k= .tuple [.agg [.int .i64 a,.int .i64 b,.str c],.int .i64 e]:=by
 unfold To
 split <;> exact⟨_,_,_,_,rfl⟩
theorem Zz8 (d:UInt8) (s:List UInt8):(Nt d s).1.length≤s.length∧(Nt d s).2.1.length≤s.length:=by
 unfold Nt
 split <;> simp <;> omega
theorem Zru (H:B.Ng T) (hwf:st.Wf) {s:List UInt8} (hs:s.length<9223372036854775806):Z9 T st (.fn 76 [] []) [.str s] (Zkr s):=by
 refine Zm H.e H.f rfl ?_
 have hx:=Ext.new hwf (.cells 134 true [.int .i64 0,.int .i64 0,.str []])
 have hg:Zh ((st.nx,Qb.cells 134 true [.int .i64 0,.int .i64 0,.str []])::st.h) st.nx=some (.cells 134 true [.int .i64 0,.int .i64 0,.str []]):=by simp[Zg]
 obtain⟨l1,l2⟩:=Zz8 35 s
 simp[B.Vs,go_sem,NO.run]
 refine(Zvp H.strings_Cut hx.wf hs).use fun s1 hs1=> ?_
 have e1:=hx.trans hs1
 generalize hF:(Nt 35 s).1=F at*
 generalize hR:(Nt 35 s).2.1=R at*
 generalize hI:(Nt 35 s).2.2=I at*
 simp[go_sem]
 refine(Ty H.M5 e1.wf (s:=F) (by omega) (base:=10) (by omega) (by omega)).use fun s2 hs2=> ?_
 have e2:=e1.trans hs2
 have g2:=(hs1.trans hs2).get hx.wf hg
 obtain⟨b,hb⟩:∃b,b=(Uk 10 F).1:=⟨_,rfl⟩
 obtain⟨ok,hok⟩:∃ok,ok=(Uk 10 F).2:=⟨_,rfl⟩
 have hdef:Zkr s=(if I=false∨ok=false∨2<F.length∨b<2∨36<b then X5 0 0 [] 5 else if(Uk b R).2=true then To (Uk b R).1 s.length else X5 0 0 [] 5):=by
  simp only[Zkr,hF,hR,hI,←hb,←hok]
 simp only[←hb,←hok]
 clear hb hok hF hR hI
 have bad:∀e:Env,True:=fun _=>trivial
 cases I with
 | false=>
   simp[go_sem,V4 g2,WO.run,Zt,Qn,Jk,RO.run,Ve (Zn g2),hdef,X5,R7]
   exact e2.Vk g2 (Nat.le_refl _)
 | true=>
 cases ok with
 | false=>
   simp[go_sem,V4 g2,WO.run,Zt,Qn,Jk,RO.run,Ve (Zn g2),hdef,X5,R7]
   exact e2.Vk g2 (Nat.le_refl _)
 | true=>
 by_cases c1:2<F.length
 ·have c1':(2:Int)<F.length:=by omega
  simp[go_sem,c1,c1',V4 g2,WO.run,Zt,Qn,Jk,RO.run,Ve (Zn g2),hdef,X5,R7]
  exact e2.Vk g2 (Nat.le_refl _)
 ·have c1':¬(2:Int)<F.length:=by omega
  by_cases c2:b<2
  ·have c2':(b:Int)<2:=by omega
   simp[go_sem,c1,c1',c2,c2',V4 g2,WO.run,Zt,Qn,Jk,RO.run,Ve (Zn g2),hdef,X5,R7]
   exact e2.Vk g2 (Nat.le_refl _)
  ·have c2':¬(b:Int)<2:=by omega
   by_cases c3:36<b
   ·have c3':(36:Int)<b:=by omega
    simp[go_sem,c1,c1',c2,c2',c3,c3',V4 g2,WO.run,Zt,Qn,Jk,RO.run,Ve (Zn g2),hdef,X5,R7]
    exact e2.Vk g2 (Nat.le_refl _)
   ·have c3':¬(36:Int)<b:=by omega
    simp[go_sem,c1,c1',c2,c2',c3,c3']
    refine(Ty H.M5 e2.wf (s:=R) (by omega) (base:=b) (by omega) (by omega)).use fun s3 hs3=> ?_
    have e3:=e2.trans hs3
    have g3:=hs3.get e2.wf g2
    cases hc:(Uk b R).2 with
    | false=>
      simp[go_sem,hc,c1,c2,c3,V4 g3,WO.run,Zt,Qn,Jk,RO.run,Ve (Zn g3),hdef,X5,R7]
      exact e3.Vk g3 (Nat.le_refl _)
    | true=>
      simp[go_sem,hc]
      refine(Zdg H.Jd e3.wf).use fun s4 hs4=> ?_
      have e4:=e3.trans hs4
      have g4:=hs4.get e3.wf g3
      obtain⟨a1,a2,a3,a4,h4⟩:=ansC (Uk b R).1 s.length
      simp[go_sem,hc,c1,c2,c3,h4,V4 g4,WO.run,Zt,Qn,Jk,RO.run,Ve (Zn g4),hdef,X5,R7]
      exact e4.Vk g4 (Nat.le_refl _)
end Go.Ev

/- Slices by what they hold, whatever their block is called. -/
namespace Go.Ev
open Go
variable {T : Tab} {st : St}
def AV.nms:AV→List Nat
 | .slice n _ _ _=>[n]
 | _=>[]
def Sl (s:St) (v:AV) (ty es k:Nat) (cs:List AV):Prop:=∃n,G7 s.h v n ty es k cs
def Rd (h:Heap) (v:AV) (es k:Nat) (cs:List AV):Prop:=(v= .Zc∧k=0∧cs=[])∨∃n off cp,v= .slice n off k cp∧Qg h n off (k*es)=some cs
def Dv (S:List Nat) (st:St) (v:AV):Prop:=∀n∈v.nms,n∈S∨st.nx≤n
theorem Sl.nil (s:St) (ty es:Nat):Sl s .Zc ty es 0 []:=⟨0,.nil rfl rfl rfl⟩
theorem Dv.nil (S:List Nat) (s:St):Dv S s .Zc:=fun n h=>by cases h
theorem Zhc {h:Heap} {n off c:Nat} {cs:List AV} (a:Qg h n off c=some cs):cs.length=c:=by
 unfold Qg at a
 split at a
 all_goals
  first
  | (split at a
     ·injection a with a;rw[←a];simp;omega
     ·cases a)
  | cases a
theorem Zrw {h:Heap} {n off c i:Nat} {cs:List AV} (a:Qg h n off c=some cs) (hi:i<c):Q5 h n (off+i)=cs[i]? :=by
 unfold Qg at a
 unfold Q5
 split at a
 all_goals
  first
  | (split at a
     ·injection a with a;rw[←a];simp[hi]
     ·cases a)
  | cases a
theorem Cf {h:Heap} {n off c:Nat} {cs:List AV} (a:Qg h n off c=some cs):∃o,Zh h n=some o:=by
 unfold Qg at a
 split at a
 ·exact⟨_,by assumption⟩
 ·exact⟨_,by assumption⟩
 ·exact⟨_,by assumption⟩
 ·exact⟨_,by assumption⟩
 ·cases a
theorem Rd.len {h:Heap} {v:AV} {es k:Nat} {cs:List AV} (a:Rd h v es k cs):cs.length=k*es:=by
 rcases a with ⟨_,h2,h3⟩ | ⟨n,off,cp,_,h2⟩
 ·subst h2;subst h3;simp
 ·exact Zhc h2
theorem Rd.src {h:Heap} {v:AV} {es k:Nat} {cs:List AV} (a:Rd h v es k cs):Vl h es v=some (k,cs):=by
 rcases a with ⟨h1,h2,h3⟩ | ⟨n,off,cp,h1,h2⟩
 ·subst h1;subst h2;subst h3;rfl
 ·subst h1;simp only[Vl,h2,Option.map_some]
theorem Rd.Ma {st st':St} {v:AV} {es k:Nat} {cs:List AV} {S:List Nat} (a:Rd st.h v es k cs) (f:Frm S st st') (hw:st.Wf) (hn:∀n∈v.nms,n∉S):Rd st'.h v es k cs:=by
 rcases a with ⟨h1,h2,h3⟩ | ⟨n,off,cp,h1,h2⟩
 ·exact .inl ⟨h1,h2,h3⟩
 ·refine .inr ⟨n,off,cp,h1,?_⟩
  obtain⟨o,ho⟩:=Cf h2
  have:=f.get hw ho (hn n (by simp[h1,AV.nms]))
  unfold Qg at h2⊢
  rw[ho]at h2
  rw[this]
  exact h2
theorem Rd.ext {st st':St} {v:AV} {es k:Nat} {cs:List AV} (a:Rd st.h v es k cs) (f:Ext st st') (hw:st.Wf):Rd st'.h v es k cs:=a.Ma (f.fr []) hw (by simp)
theorem Rd.lt {v:AV} {es k:Nat} {cs:List AV} (a:Rd st.h v es k cs) (hw:st.Wf):∀n∈v.nms,n<st.nx:=by
 rcases a with ⟨h1,h2,h3⟩ | ⟨n,off,cp,h1,h2⟩
 ·subst h1;intro n h;cases h
 ·subst h1
  intro m h
  simp[AV.nms]at h
  subst h
  obtain⟨o,ho⟩:=Cf h2
  exact hw.lt _ _ ho
theorem G7.rd' {h:Heap} {v:AV} {n ty es k:Nat} {cs:List AV} (a:G7 h v n ty es k cs):Rd h v es k cs:=by
 rcases a with ⟨h1,h2,h3⟩ | ⟨h1,h2,h3⟩ | ⟨ty',h1,h2,h3⟩
 ·exact .inl ⟨h1,h3,h2⟩
 ·refine .inr ⟨n,0,_,h1,?_⟩
  simp only[Qg,h2]
  rw[if_pos (by omega),List.drop_zero,List.take_of_length_le (by omega)]
 ·exact .inr ⟨n,0,_,h1,Lu h2 h3⟩
theorem Sl.rd {s:St} {v:AV} {ty es k:Nat} {cs:List AV} (a:Sl s v ty es k cs):Rd s.h v es k cs:=by
 obtain⟨n,a⟩:=a;exact a.rd'
theorem G7.frm' {st st':St} {v:AV} {n ty es k:Nat} {cs:List AV} {S:List Nat} (a:G7 st.h v n ty es k cs) (f:Frm S st st') (hw:st.Wf) (hn:∀n∈v.nms,n∉S):G7 st'.h v n ty es k cs:=by
 rcases a with ⟨h1,h2,h3⟩ | ⟨h1,h2,h3⟩ | ⟨ty',h1,h2,h3⟩
 ·exact .nil h1 h2 h3
 ·exact .buf h1 (f.get hw h2 (hn n (by simp[h1,AV.nms]))) h3
 ·exact .made ty' h1 (f.get hw h2 (hn n (by simp[h1,AV.nms]))) h3
theorem Sl.Ma {st st':St} {v:AV} {ty es k:Nat} {cs:List AV} {S:List Nat} (a:Sl st v ty es k cs) (f:Frm S st st') (hw:st.Wf) (hn:∀n∈v.nms,n∉S):Sl st' v ty es k cs:=by
 obtain⟨n,a⟩:=a;exact⟨n,a.frm' f hw hn⟩
theorem Sl.ext {st st':St} {v:AV} {ty es k:Nat} {cs:List AV} (a:Sl st v ty es k cs) (f:Ext st st') (hw:st.Wf):Sl st' v ty es k cs:=a.Ma (f.fr []) hw (by simp)
theorem Sl.Zb {v:AV} {ty es k c:Nat} {cs:List AV} (hwf:st.Wf) (a:Sl st v ty es k cs):Sl ⟨Go.Ev.Zb c st.h,st.nx⟩ v ty es k cs:=by
 obtain⟨n,a⟩:=a;exact⟨n,a.Zb hwf⟩
theorem Sl.append {st0:St} {S:List Nat} (hF:Frm S st0 st) {v x:AV} {ty es k j b:Nat} {cs new:List AV} (hv:Dv S st0 v) (a:Sl st v ty es k cs) (hx:Rd st.h x es j new) (hsc:new.all AV.sc=true)
  (hb:(k+j)*b≤35184372088832) (hb':k+j≤35184372088832) (hm:0<j∨∀n c,v≠.slice n 0 k (.known c)):
  Qt (Vf ty es b st v x) fun v' s=>Sl s v' ty es (k+j) (cs++new)∧Frm S st0 s∧Dv S st0 v'∧Frm v.nms st s:=by
 obtain⟨n,a⟩:=a
 cases hv0:v with
 | slice m o l c=>
   have hmn:n=m:=by
    rcases a with ⟨h1,h2,h3⟩ | ⟨h1,h2,h3⟩ | ⟨ty',h1,h2,h3⟩ <;> rw[hv0]at h1 <;> simp at h1 <;> first | exact h1.1.symm | exact h1.symm
   subst hmn
   rw[←hv0]
   refine(a.append hF.wf hx.src hx.len hsc hb hb' ?_).mono ?_
   ·rcases hm with h | h
    ·exact .inl h
    ·exact .inr (fun⟨c,hc⟩=>h _ _ hc)
   ·rintro v' s ⟨n',hs,hf,hn,_⟩
    have hfs:Frm v.nms st s:=by rw[hv0];exact hf
    refine⟨⟨n',hs⟩,hF.trans hfs hv,?_,hfs⟩
    intro k hk
    have hk':k=n':=by
     rcases hs with ⟨h1,h2,h3⟩ | ⟨h1,h2,h3⟩ | ⟨ty',h1,h2,h3⟩ <;> rw[h1]at hk <;> simp[AV.nms]at hk <;> exact hk
    subst hk'
    rcases hn with h | h
    ·subst h;exact hv _ (by simp[hv0,AV.nms])
    ·exact .inr (Nat.le_trans hF.nx h)
 | Zc=>
   have hk0:k=0∧cs=[]:=by
    rcases a with ⟨h1,h2,h3⟩ | ⟨h1,h2,h3⟩ | ⟨ty',h1,h2,h3⟩
    ·exact⟨h3,h2⟩
    ·rw[hv0]at h1;cases h1
    ·rw[hv0]at h1;cases h1
   obtain⟨rfl,rfl⟩:=hk0
   unfold Vf
   rw[hx.src]
   simp only[Nat.zero_add]at hb hb'⊢
   by_cases hj0:j=0
   ·rw[if_pos hj0]
    refine⟨?_,hF,Dv.nil _ _,Frm.refl hF.wf _⟩
    have:new=[]:=List.length_eq_zero_iff.1 (by rw[hx.len,hj0];simp)
    subst this;subst hj0
    exact .nil _ _ _
   ·rw[if_neg hj0,if_pos ⟨hb,hb'⟩]
    refine⟨⟨st.nx,.buf rfl (by simp[Zh]) (by simpa using hx.len)⟩,hF.trans ((Ext.new hF.wf _).fr []) (by simp),?_,(Ext.new hF.wf _).fr _⟩
    intro n hn
    simp[AV.nms]at hn
    subst hn
    exact .inr hF.nx
 | _=>
   rcases a with ⟨h1,h2,h3⟩ | ⟨h1,h2,h3⟩ | ⟨ty',h1,h2,h3⟩ <;> rw[hv0]at h1 <;> cases h1
theorem Sl.push {st0:St} {S:List Nat} (hF:Frm S st0 st) {v y:AV} {ty k b:Nat} {cs:List AV} {Q:AV→St→Prop} (hv:Dv S st0 v) (a:Sl st v ty 1 k cs) (hsc:y.sc=true) (hb:(k+1)*b≤35184372088832) (hb':k+1≤35184372088832)
  (hq:∀v' s,Sl s v' ty 1 (k+1) (cs++[y])→Frm S st0 s→Dv S st0 v'→Frm v.nms st s→Q v' s):
  Qt (Vf ty 1 b ⟨(st.nx,.cells ty false [y])::st.h,st.nx+1⟩ v (.slice st.nx 0 1 (.known 1))) Q:=by
 have hx:=Ext.new hF.wf (.cells ty false [y])
 refine(Sl.append (j:=1) (new:=[y]) (hF.trans (hx.fr []) (by simp)) hv (a.ext hx hF.wf) (.inr ⟨_,_,_,rfl,?_⟩) (by simp[hsc]) hb hb' (.inl (by omega))).mono ?_
 ·exact Lu (ty:=ty) (l:=false) (by simp[Zh]) rfl
 ·rintro v' s ⟨h1,h2,h3,h4⟩
  exact hq v' s h1 h2 h3 ((hx.fr v.nms).trans h4 (fun n h=> .inl h))
end Go.Ev

/- Bits and octets: plain laws. -/
namespace Go.Ev
open Go
theorem ofInt_ofNat (k n:Nat):BitVec.ofInt k (n:Int)=BitVec.ofNat k n:=BitVec.ofInt_natCast k n
theorem Zyd {k:IntKind} {a:Int} {b:Nat} (h0:0≤a) (hb:b≤k.bits):Zed k a (b:Int)=a / 2 ^ b:=by
 unfold Zed
 rw[Int.toNat_natCast,Nat.min_eq_left hb,Int.fdiv_eq_ediv_of_nonneg _ (Int.natCast_nonneg _)]
 push_cast;rfl
theorem wrap_u8 {a:Int} (h0:0≤a) (h1:a<256):IntKind.u8.wrap a=a:=by
 simp[IntKind.wrap,IntKind.signed,IntKind.bits];omega
end Go.Ev

/- The scanner of decimals. -/
namespace Go.Ev
open Go
variable {T : Tab} {st : St}
def Wj (s':St) (q:Nat) (s:List UInt8) (k:Nat):Prop:=Zh s'.h q=some (.cells 187 false [.str s,.int .i64 k])
theorem Wj.r0 {s':St} {q k:Nat} {s:List UInt8} (h:Wj s' q s k):Q5 s'.h q 0=some (.str s):=by unfold Wj at h;simp[Q5,h]
theorem Wj.r1 {s':St} {q k:Nat} {s:List UInt8} (h:Wj s' q s k):Q5 s'.h q 1=some (.int .i64 k):=by unfold Wj at h;simp[Q5,h]
theorem Wj.w1 {s':St} {q k:Nat} {s:List UInt8} {n:Int} (h:Wj s' q s k):Jy s'.h q 1 [.int .i64 n]=some (Z7 s'.h q (.cells 187 false [.str s,.int .i64 n])):=Og h rfl (by simp)
theorem Wj.ext {s1 s2:St} {q k:Nat} {s:List UInt8} (h:Wj s1 q s k) (hw:s1.Wf) (x:Ext s1 s2):Wj s2 q s k:=x.get hw h
def Mw (set:List UInt8):List UInt8→Bool
 | []=>false
 | c::_=>decide (c∈set)
theorem Zyq (H:B.Uq T) {q k:Nat} {s set:List UInt8} {c:UInt8} (hk:k<9223372036854775806) (hc:s[k]? =some c) (hset':set.length<9223372036854775806):
  ∀(m i:Nat) (e:Env) (st1:St),i+m=set.length→st1.Wf→Wj st1 q s k→Zl e 0= .ptr q 0→Zl e 1= .str set→Zl e 19= .int .i64 set.length→Zl e 20= .int .i64 i→
  Res (run T (.loop B.V8) e st1) fun x e' s'=>(x= .exit 0∧Ext st1 s'∧¬c∈set.drop i)∨(x= .ret∧Zl e' 4= .bool true∧Frm [q] st1 s'∧Wj s' q s (k+1)∧c∈set.drop i):=by
 intro m
 induction m with
 | zero=>
   intro i e st1 hi hw hq g0 g1 g19 g20
   have hil:i=set.length:=by omega
   subst hil
   rw[Zs]
   simp[B.V8,go_sem,g0,g1,g19,g20,Ext.refl hw]
 | succ m ih=>
   intro i e st1 hi hw hq g0 g1 g19 g20
   have hil:i<set.length:=by omega
   have hil':(i:Int)<set.length:=by omega
   obtain⟨d,hd,hdr⟩:=Mt hil
   have r0:=hq.r0
   have r1:=hq.r1
   have x1:=Ext.aside hw 15
   have hq1:Wj ⟨st1.h,st1.nx+15⟩ q s k:=hq
   rw[Zs]
   by_cases hcd:c=d
   ·subst hcd
    have hw1:=hq.w1 (n:=(k:Int)+1)
    have hwk:IntKind.i64.wrap ((k:Int)+1)=(k:Int)+1:=Zo (by omega) (by omega)
    simp[B.V8,go_sem,g0,g1,g19,g20,hil',RO.run,WO.run,r0,r1,hc,hd,hwk,hw1,hdr]
    refine⟨?_,?_⟩
    ·exact(x1.fr [q]).trans (Frm.set (st:=⟨_,_⟩) x1.wf hq1) (by simp)
    ·exact Zn hq1
   ·have hne:¬(c.toNat:Int)=d.toNat:=Zzh hcd rfl
    have hne':¬c.toNat=d.toNat:=fun e=>hcd (UInt8.toNat_inj.1 e)
    simp[B.V8,go_sem,g0,g1,g19,g20,hil',RO.run,r0,r1,hc,hd,hne,hne',hcd,hdr]
    refine(ih (i+1) _ _ (by omega) x1.wf hq1 ?_ ?_ ?_ ?_).mono ?_
    ·simp[go_sem]
    ·simp[go_sem]
    ·simp[go_sem]
    ·simp[go_sem];rw[Zo (by omega) (by omega)]
    ·rintro x e' s' (⟨rfl,h1,h2⟩ | ⟨rfl,h1,h2,h3,h4⟩)
     ·exact .inl ⟨rfl,x1.trans h1,h2⟩
     ·exact .inr ⟨rfl,h1,(x1.fr [q]).trans h2 (by simp),h3,h4⟩
theorem Zan (H:B.Uq T) (hwf:st.Wf) {q k:Nat} {s set:List UInt8} (hs:s.length<9223372036854775806) (hk:k≤s.length) (hset':set.length<9223372036854775806) (hq:Wj st q s k):
  Qt (call T (.fn 120 [.ptr q 0] []) [.str set] st) fun v s'=>v= .bool (Mw set (s.drop k))∧Frm [q] st s'∧Wj s' q s (if Mw set (s.drop k)=true then k+1 else k):=by
 refine Zw H.e H.f rfl ?_
 have r0:=hq.r0
 have r1:=hq.r1
 have x1:=Ext.aside hwf 12
 have hqn:q<st.nx:=hwf.lt _ _ hq
 by_cases hkl:k=s.length
 ·subst hkl
  simp[B.Jz,go_sem,RO.run,r0,r1,Mw]
  refine⟨(x1.Zb).fr _,?_⟩
  exact Qh hwf hq rfl
 ·have hkl':¬(k:Int)=s.length:=by omega
  obtain⟨c,hc,hd⟩:=Mt (s:=s) (i:=k) (by omega)
  simp[B.Jz,go_sem,RO.run,r0,r1,hkl',hkl]
  refine(Zyq H (q:=q) (s:=s) (set:=set) (by omega) hc hset' set.length 0 _ _ (by simp) x1.wf (show Wj ⟨st.h,st.nx+12⟩ q s k from hq) ?_ ?_ ?_ ?_).mono ?_
  ·simp[go_sem]
  ·simp[go_sem]
  ·simp[go_sem]
  ·simp[go_sem]
  ·rintro x e' s' (⟨rfl,h1,h2⟩ | ⟨rfl,h1,h2,h3,h4⟩)
   ·rw[List.drop_zero]at h2
    simp[go_sem,hd,Mw,h2]
    have y:=x1.trans h1
    exact⟨(y.Zb).fr _,Qh y.wf (h1.get x1.wf hq) rfl⟩
   ·rw[List.drop_zero]at h4
    simp[go_sem,hd,Mw,h4,h1]
    have y:=(x1.fr [q]).trans h2 (by simp)
    exact⟨y.Zb,Qh y.wf h3 rfl⟩
def Jm:List UInt8→List Nat×List UInt8
 | []=>([],[])
 | c::r=>if 48≤c.toNat∧c.toNat≤57 then((c.toNat - 48)::(Jm r).1,(Jm r).2)else([],c::r)
def ten:List UInt8:=[48,49,50,51,52,53,54,55,56,57]
theorem Zu2 (c:UInt8):c∈ten↔48≤c.toNat∧c.toNat≤57:=by
 have h:(List.range 256).all (fun n=>decide (UInt8.ofNat n∈ten) == decide (48≤n∧n≤57))=true:=by kernel_rfl
 have:=Zit h c
 simp only[UInt8.ofNat_toNat,beq_iff_eq,decide_eq_decide]at this
 exact this
def Xy (l:List Nat):List AV:=l.map fun n=> .int .u8 ((n:Nat):Int)
theorem Zkn (l:List Nat):(Xy l).length=l.length:=by simp[Xy]
theorem Zaa7 (l:List Nat):(Xy l).all AV.sc=true:=by simp[Xy,AV.sc]
theorem Zm0 (l:List Nat) (n:Nat):Xy (l++[n])=Xy l++[.int .u8 (n:Int)]:=by simp[Xy]
theorem Cp (s:List UInt8):(Jm s).1.length+(Jm s).2.length=s.length:=by
 induction s with
 | nil=>rfl
 | cons c r ih=>
   simp only[Jm]
   split
   ·simp only[List.length_cons];omega
   ·simp
theorem Ext.newA (h:st.Wf) (o:Qb) {k:Nat} (hk:0<k):Ext st ⟨(st.nx,o)::st.h,st.nx+k⟩:=by
 have x:=Ext.new h o
 refine⟨by simp,⟨fun n p hp=> ?_,x.wf.nd⟩,x.Zd⟩
 have:=x.wf.lt n p hp
 simp only at this⊢
 omega
def NK (v:AV):Prop:=∀n o k c,v≠.slice n o k (.known c)
theorem C4 {ty es b:Nat} {st st':St} {v x v':AV} (h:Vf ty es b st v x=some (v',st')) (hv:NK v):NK v':=by
 unfold Vf at h
 split at h
 ·cases h
 ·split at h
  ·split at h
   ·cases h;exact hv
   ·split at h
    ·cases h;intro n o k c e;cases e
    ·cases h
  ·rename_i n o len cap
   split at h
   ·split at h
    ·exact absurd rfl (hv _ _ _ _)
    ·split at h
     ·split at h
      ·split at h
       ·cases h;exact hv
       ·cases h;intro n o k c e;cases e
      ·cases h
     ·cases h
    ·cases h
   ·cases h
  ·cases h
theorem Qt.Zxm {r:Option (AV×St)} {P:AV→St→Prop} {R:AV→Prop} (h:Qt r P) (k:∀v s,r=some (v,s)→R v):Qt r fun v s=>P v s∧R v:=by
 obtain⟨v,s,h1,h2⟩:=h.elim
 rw[h1]
 exact⟨h2,k v s h1⟩
theorem Zqh (H:B.Uy T) {q:Nat} {s:List UInt8} (hs:s.length<35184372088832) (st0:St) (hq0:q<st0.nx):
  ∀(m k:Nat) (e:Env) (st1:St) (v:AV) (l:List Nat),k+m=s.length→Frm [q] st0 st1→Wj st1 q s k→Zl e 0= .ptr q 0→Zl e 3=v→Sl st1 v 5 1 l.length (Xy l)→Dv [] st0 v→NK v→l.length≤k→
  Res (run T (.loop B.Ud) e st1) fun x e' s'=>x= .exit 0∧Frm [q] st0 s'∧Dv [] st0 (Zl e' 3)∧NK (Zl e' 3)∧Sl s' (Zl e' 3) 5 1 (l++(Jm (s.drop k)).1).length (Xy (l++(Jm (s.drop k)).1))∧Wj s' q s (k+(Jm (s.drop k)).1.length):=by
 intro m
 induction m with
 | zero=>
   intro k e st1 v l hi hf hq g0 g3 hv hm hnk hl
   have hkl:k=s.length:=by omega
   subst hkl
   rw[Zs]
   simp[B.Ud,go_sem,g0]
   refine(Zan H.Jz hf.wf (s:=s) (k:=s.length) (by omega) (Nat.le_refl _) (by simp) hq).mono ?_
   rintro v1 s1 ⟨rfl,h1,h2⟩
   simp[Mw]at h2
   simp[go_sem,Mw,Jm,g3]
   exact⟨hf.trans h1 (by simp),hm,hnk,hv.Ma h1 hf.wf (fun n hn=>by
    rcases hm n hn with h | h
    ·cases h
    ·simp;omega),h2⟩
 | succ m ih=>
   intro k e st1 v l hi hf hq g0 g3 hv hm hnk hl
   obtain⟨c,hc,hd⟩:=Mt (s:=s) (i:=k) (by omega)
   have hge:∀n∈v.nms,st0.nx≤n:=fun n hn=>by
    rcases hm n hn with h | h
    ·cases h
    ·exact h
   rw[Zs]
   simp[B.Ud,go_sem,g0]
   refine(Zan H.Jz hf.wf (s:=s) (k:=k) (by omega) (by omega) (by simp) hq).mono ?_
   rintro v1 s1 ⟨rfl,h1,h2⟩
   have hv1:=hv.Ma h1 hf.wf (fun n hn=>by have:=hge n hn;simp;omega)
   have f1:=hf.trans h1 (by simp)
   change Wj s1 q s (if Mw ten (s.drop k)=true then k+1 else k)at h2
   by_cases hcd:48≤c.toNat∧c.toNat≤57
   ·have hb:Mw ten (s.drop k)=true:=by rw[hd];simp[Mw,Zu2,hcd]
    have hb':Mw [48,49,50,51,52,53,54,55,56,57] (s.drop k)=true:=hb
    rw[if_pos hb]at h2
    have r0:=h2.r0
    have r1:=h2.r1
    have e1:IntKind.i64.wrap (k:Int)=k:=Zo (by omega) (by omega)
    have e2:IntKind.u8.wrap ((c.toNat:Int) - 48)=((c.toNat - 48:Nat):Int):=by
     rw[wrap_u8 (by omega) (by have:=c.toNat_lt;omega)];omega
    have xa:=Ext.newA f1.wf (.cells 5 false [.int .u8 ((c.toNat - 48:Nat):Int)]) (k:=17) (by omega)
    have fa:=f1.trans (xa.fr [q]) (by simp)
    have hva:=hv1.ext xa f1.wf
    have hap:=Sl.append (x:= .slice s1.nx 0 1 (.known 1)) (j:=1) (new:=[.int .u8 ((c.toNat - 48:Nat):Int)]) (b:=1) (Frm.refl xa.wf v.nms) (fun n h=> .inl h) hva
     (.inr ⟨_,_,_,rfl,Lu (ty:=5) (l:=false) (by simp[Zg]) rfl⟩) (by simp[AV.sc]) (by omega) (by omega) (.inl (by omega))
    simp[go_sem,hb',RO.run,NO.run,r0,r1,e1,hc,e2,Bn,g3]
    refine(hap.Zxm (fun _ _ h=>C4 h hnk)).mono ?_
    rintro v2 s2 ⟨⟨k1,k2,k3,_⟩,hnk2⟩
    have k2':=fa.trans k2 (fun n hn=> .inr (hge n hn))
    have hnx:=fa.nx
    have hm2:Dv [] st0 v2:=fun n hn=>by
     rcases k3 n hn with h | h
     ·exact .inr (hge n h)
     ·exact .inr (Nat.le_trans hnx h)
    simp[go_sem]
    have hq2:Wj s2 q s (k+1):=k2.get xa.wf (h2.ext f1.wf xa) (fun h=>by have:=hge q h;omega)
    have hsp:Jm (s.drop k)=((c.toNat - 48)::(Jm (s.drop (k+1))).1,(Jm (s.drop (k+1))).2):=by rw[hd];simp[Jm,hcd]
    refine(ih (k+1) _ s2 v2 (l++[c.toNat - 48]) (by omega) k2' hq2 ?_ ?_ (by rw[Zm0];simpa using k1) hm2 hnk2 (by simp;omega)).mono ?_
    ·simp[go_sem]
    ·simp[go_sem]
    ·rintro x e' s' ⟨rfl,j1,j2,j0,j3,j4⟩
     rw[hsp]
     simp only[List.append_assoc,List.singleton_append]at j3
     refine⟨by simp,j1,j2,j0,by simpa using j3,?_⟩
     rw[List.length_cons,show k+((Jm (s.drop (k+1))).1.length+1)=k+1+(Jm (s.drop (k+1))).1.length by omega]
     exact j4
   ·have hb:¬Mw ten (s.drop k)=true:=by rw[hd];simp[Mw,Zu2,hcd]
    have hb':Mw [48,49,50,51,52,53,54,55,56,57] (s.drop k)=false:=(by simpa using hb:Mw ten (s.drop k)=false)
    rw[if_neg hb]at h2
    have hsp:Jm (s.drop k)=([],s.drop k):=by rw[hd];simp[Jm,hcd]
    simp[go_sem,hb',hsp,g3]
    exact⟨f1,hm,hnk,hv1,h2⟩
theorem Zch (H:B.Uy T) (hwf:st.Wf) {q k:Nat} {s:List UInt8} (hs:s.length<35184372088832) (hk:k≤s.length) (hq:Wj st q s k):
  Qt (call T (.fn 121 [.ptr q 0] []) [] st) fun v s'=>Frm [q] st s'∧Dv [] st v∧NK v∧Sl s' v 5 1 (Jm (s.drop k)).1.length (Xy (Jm (s.drop k)).1)∧Wj s' q s (k+(Jm (s.drop k)).1.length):=by
 refine Zw H.e H.f rfl ?_
 have hqn:q<st.nx:=hwf.lt _ _ hq
 simp[B.Yu,go_sem]
 refine(Zqh H hs st hqn (s.length - k) k _ st .Zc [] (by omega) (.refl hwf _) hq ?_ ?_ (.nil _ _ _) (Dv.nil _ _) (fun _ _ _ _ h=>by cases h) (by simp)).mono ?_
 ·simp[go_sem]
 ·simp[go_sem]
 ·rintro x e s' ⟨rfl,j1,j2,j0,j3,j4⟩
  simp only[List.nil_append]at j3 j4
  simp[go_sem]
  exact⟨j1.Zb,j2,j0,j3.Zb j1.wf,Qh j1.wf j4 rfl⟩
end Go.Ev

/- The scanner reads a decimal. -/
namespace Go.Ev
open Go
variable {T : Tab} {st : St}
theorem Sl.view {s:St} {v:AV} {ty es k:Nat} {cs:List AV} (a:Sl s v ty es k cs):(v= .Zc∧k=0∧cs=[])∨∃n c,v= .slice n 0 k c∧∀i,i<cs.length→Q5 s.h n i=cs[i]? :=by
 obtain⟨n,a⟩:=a
 rcases a with ⟨h1,h2,h3⟩ | ⟨h1,h2,h3⟩ | ⟨ty',h1,h2,h3⟩
 ·exact .inl ⟨h1,h3,h2⟩
 ·exact .inr ⟨n,_,h1,fun i _=>by simp[Q5,h2]⟩
 ·exact .inr ⟨n,_,h1,fun i _=>by simp[Q5,h2]⟩
theorem Sl.lenOf {s:St} {v:AV} {ty es k:Nat} {cs:List AV} (a:Sl s v ty es k cs) {ev:AO→AV} {x:AO} (hx:ev x=v):PO.run ev (.lenOf false x)=some (.int .i64 k):=by
 obtain⟨n,a⟩:=a;exact a.lenOf hx
theorem P5:∀s:List UInt8,(Jm s).2=s.drop (Jm s).1.length
 | []=>rfl
 | c::r=>by
   simp only[Jm]
   split
   ·simp[P5 r]
   ·simp
theorem Oe:∀s:List UInt8,∀d∈(Jm s).1,d<10
 | [],d,h=>by cases h
 | c::r,d,h=>by
   simp only[Jm]at h
   split at h
   ·rcases List.mem_cons.1 h with rfl | h
    ·omega
    ·exact Oe r d h
   ·cases h
def sgn:List UInt8→Bool×List UInt8
 | c::r=>if c=45 then(true,r)else if c=43 then(false,r)else(false,c::r)
 | []=>(false,[])
theorem Ch (s:List UInt8):(sgn s).2=s.drop (if Mw [43,45] s=true then 1 else 0)∧(Mw [43,45] s=false→(sgn s).1=false)∧(Mw [43,45] s=true→∃c r,s=c::r∧(sgn s).1=decide (c=45)):=by
 cases s with
 | nil=>simp[sgn,Mw]
 | cons c r=>
   by_cases h1:c=45
   ·subst h1;simp[sgn,Mw]
   ·by_cases h2:c=43
    ·subst h2;simp[sgn,Mw]
    ·simp[sgn,Mw,h1,h2]
def E0 (l:List Nat):Nat:=l.foldl (fun a d=>10*a+d) 0
def Zs3 (s:List UInt8):List Nat:=if Mw [46] (Jm (sgn s).2).2=true then(Jm (sgn s).2).1++(Jm (Jm (sgn s).2).2.tail).1 else(Jm (sgn s).2).1
def Zli (s:List UInt8):List UInt8:=if Mw [46] (Jm (sgn s).2).2=true then(Jm (Jm (sgn s).2).2.tail).2 else(Jm (sgn s).2).2
def Zlh (s:List UInt8):Option (Bool×List Nat×Int):=
 if Zs3 s=[]then none
 else if Mw [101,69] (Zli s)=true then
  if(Jm (sgn (Zli s).tail).2).1.length<1∨3<(Jm (sgn (Zli s).tail).2).1.length then none
  else if(Jm (sgn (Zli s).tail).2).2=[]then
   some ((sgn s).1,Zs3 s,(Jm (sgn s).2).1.length+(if(sgn (Zli s).tail).1=true then -(E0 (Jm (sgn (Zli s).tail).2).1:Int)else E0 (Jm (sgn (Zli s).tail).2).1))
  else none
 else if Zli s=[]then some ((sgn s).1,Zs3 s,(Jm (sgn s).2).1.length)else none
theorem Zyn {n:Nat} {cp:Cap} {l:List Nat} (hl:l.length≤3) (hd:∀d∈l,d<10) (st0:St) (hwf:st0.Wf) (hr:∀i,i<l.length→Q5 st0.h n i=(Xy l)[i]?):
  ∀(m i:Nat) (e:Env),i+m=l.length→Zl e 70= .slice n 0 l.length cp→Zl e 71= .int .i64 l.length→Zl e 72= .int .i64 i→Zl e 9= .int .i64 (E0 (l.take i))→E0 (l.take i)<10 ^ i→
  Res (run T (.loop B.Vx) e st0) fun x e' s'=>x= .exit 0∧s'=st0∧Zl e' 9= .int .i64 (E0 l)∧Zl e' 0=Zl e 0∧Zl e' 2=Zl e 2∧Zl e' 3=Zl e 3∧Zl e' 4=Zl e 4∧Zl e' 8=Zl e 8:=by
 intro m
 induction m with
 | zero=>
   intro i e hi g70 g71 g72 g9 hb
   have hil:i=l.length:=by omega
   subst hil
   rw[List.take_length]at g9
   rw[Zs]
   simp[B.Vx,go_sem,g70,g71,g72,g9]
 | succ m ih=>
   intro i e hi g70 g71 g72 g9 hb
   have hil:i<l.length:=by omega
   have hil':(i:Int)<l.length:=by omega
   have hv:=hr i hil
   have hg:(Xy l)[i]? =some (.int .u8 (l[i]:Int)):=by simp[Xy,List.getElem?_eq_getElem hil]
   rw[hg]at hv
   have hlt:=hd l[i] (List.getElem_mem hil)
   have htk:l.take (i+1)=l.take i++[l[i]]:=List.take_succ_eq_append_getElem hil
   have hn:E0 (l.take (i+1))=10*E0 (l.take i)+l[i]:=by unfold E0;rw[htk,List.foldl_append];rfl
   have hpow:10 ^ i≤1000:=Nat.le_trans (Nat.pow_le_pow_right (by omega) (show i≤3 by omega)) (by omega)
   have e1:IntKind.i64.wrap (10*(E0 (l.take i):Int))=10*E0 (l.take i):=Zo (by omega) (by omega)
   have e2:IntKind.i64.wrap (10*(E0 (l.take i):Int)+l[i])=E0 (l.take (i+1)):=by rw[Zo (by omega) (by omega),hn];simp
   have e3:IntKind.i64.wrap (l[i]:Int)=l[i]:=Zo (by omega) (by omega)
   rw[Zs]
   simp[B.Vx,go_sem,g70,g71,g72,g9,hil',RO.run,hv,e1,e2,e3]
   refine(ih (i+1) _ (by omega) ?_ ?_ ?_ ?_ ?_).mono ?_
   ·simp[go_sem]
   ·simp[go_sem]
   ·simp[go_sem];rw[Zo (by omega) (by omega)]
   ·simp[go_sem]
   ·rw[hn,Nat.pow_succ];omega
   ·rintro x e' s' ⟨rfl,rfl,h1,h2⟩
    simp[go_sem]at h2
    exact⟨rfl,rfl,h1,h2⟩
theorem Zby:∀(l:List Nat) (a:Nat),(∀d∈l,d<10)→l.foldl (fun a d=>10*a+d) a<(a+1)*10 ^ l.length
 | [],a,_=>by simp
 | d::l,a,h=>by
   have ih:=Zby l (10*a+d) (fun x hx=>h x (List.mem_cons_of_mem _ hx))
   have hd:=h d List.mem_cons_self
   simp only[List.foldl_cons,List.length_cons]
   refine Nat.lt_of_lt_of_le ih ?_
   rw[Nat.pow_succ,Nat.mul_comm (10 ^ l.length) 10,←Nat.mul_assoc]
   exact Nat.mul_le_mul_right _ (by omega)
theorem Zu6 {l:List Nat} (h:∀d∈l,d<10):E0 l<10 ^ l.length:=by
 have:=Zby l 0 h
 simpa [E0] using this
theorem Zaeo {s:List UInt8} {k:Nat} {b:Bool} (hb:b=Mw [43,45] (s.drop k)):s.drop (if b=true then k+1 else k)=(sgn (s.drop k)).2:=by
 rw[(Ch (s.drop k)).1,←hb]
 cases b
 ·simp
 ·simp
def Zac3 (st s':St) (v:AV) (o:Option (Bool×List Nat×Int)):Prop:=
 match o with
 | some (neg,l,pt)=>∃sv,v= .tuple [.bool neg,sv,.int .i64 pt,.bool true]∧Sl s' sv 5 1 l.length (Xy l)∧Dv [] st sv
 | none=>∃a b c,v= .tuple [a,b,c,.bool false]
theorem Zqf (H:B.Xp T) (hwf:st.Wf) {q:Nat} {s:List UInt8} (hs:s.length<10000000000) (hq:Wj st q s 0):
  Qt (call T (.fn 113 [] []) [.ptr q 0] st) fun v s'=>Frm [q] st s'∧Zac3 st s' v (Zlh s):=by
 refine Zw H.e H.f rfl ?_
 have hqn:q<st.nx:=hwf.lt _ _ hq
 have H1:=H.Jz
 have H2:=H.Yu
 simp[B.K8,go_sem]
 refine(Zan H1 hwf (set:=[43,45]) (by omega) (Nat.zero_le _) (by simp) hq).mono ?_
 rintro v1 s1 ⟨rfl,f1,q1⟩
 obtain⟨b1,hb1⟩:∃b,b=Mw [43,45] s:=⟨_,rfl⟩
 simp only[List.drop_zero,←hb1,Nat.zero_add]at q1⊢
 have p1:s.drop (if b1=true then 1 else 0)=(sgn s).2:=by rw[(Ch s).1,←hb1]
 have k1le:(if b1=true then 1 else 0)≤s.length:=by
  cases hb:b1 with
  | false=>simp
  | true=>
    obtain⟨c,r,h,_⟩:=(Ch s).2.2 (by rw[←hb1,hb])
    subst h;simp
 generalize hk1:(if b1=true then 1 else 0)=k1 at q1 p1 k1le
 refine Zabd (fun e s'=>s'=s1∧Zl e 0= .ptr q 0∧Zl e 2= .bool (sgn s).1∧Zl e 6= .fn 120 [.ptr q 0] []∧Zl e 7= .fn 121 [.ptr q 0] []) ?_ ?_
 ·cases hb:b1 with
  | false=>
    have hneg:=(Ch s).2.1 (by rw[←hb1,hb])
    simp[go_sem,hneg]
  | true=>
    obtain⟨c,r,h,hneg⟩:=(Ch s).2.2 (by rw[←hb1,hb])
    have r0:=q1.r0
    have hc0:s[0]? =some c:=by rw[h];rfl
    simp[go_sem,RO.run,r0,hc0,hneg]
    rw[←UInt8.toNat_inj]
    exact⟨fun h=>by have:(45:UInt8).toNat=45:=rfl;omega,fun h=>by have:(45:UInt8).toNat=45:=rfl;omega⟩
 rintro e s' ⟨rfl,g0,g2,g6,g7⟩
 clear hk1
 simp[go_sem,g0,g2,g6,g7]
 refine(Zch H2 f1.wf (by omega) k1le q1).mono ?_
 rintro v1 s2 ⟨f2,m1,nk1,l1,q2⟩
 simp only[p1]at l1 q2
 have f12:=f1.trans f2 (by simp)
 obtain⟨D1,hD1⟩:∃D,D=(Jm (sgn s).2).1:=⟨_,rfl⟩
 obtain⟨R2,hR2⟩:∃R,R=(Jm (sgn s).2).2:=⟨_,rfl⟩
 have p2:s.drop (k1+D1.length)=R2:=by rw[hR2,P5,←p1,List.drop_drop,hD1,p1]
 have hle2:k1+D1.length≤s.length:=by
  have:=Cp (sgn s).2
  rw[←p1,List.length_drop]at this
  rw[hD1,←p1]
  omega
 rw[←hD1]at l1 q2
 have hlen1:=l1.lenOf (ev:=fun _=>v1) (x:= .t 0) rfl
 simp[PO.run]at hlen1
 simp[go_sem,hlen1]
 refine(Zan H1 f2.wf (set:=[46]) (by omega) hle2 (by simp) q2).mono ?_
 rintro v2 s3 ⟨rfl,f3,q3⟩
 have f13:=f12.trans f3 (by simp)
 have hge1:∀n∈v1.nms,s'.nx≤n:=fun n hn=>by
  rcases m1 n hn with h | h
  ·cases h
  ·exact h
 have l1':=l1.Ma f3 f2.wf (fun n hn=>by have:=hge1 n hn;have:=f1.nx;simp;omega)
 rw[p2]at q3⊢
 simp[go_sem]
 obtain⟨L,hL⟩:∃L,L=(if Mw [46] R2=true then D1++(Jm R2.tail).1 else D1):=⟨_,rfl⟩
 obtain⟨R4,hR4⟩:∃R,R=(if Mw [46] R2=true then(Jm R2.tail).2 else R2):=⟨_,rfl⟩
 have hnx1:=f1.nx
 have mst:Dv [] st v1:=fun n hn=> .inr (Nat.le_trans hnx1 (hge1 n hn))
 refine Res.mono (Q:=fun x e s4=>x= .norm∧∃k4 sv,Zl e 0= .ptr q 0∧Zl e 2= .bool (sgn s).1∧Zl e 3=sv∧Zl e 4= .int .i64 D1.length∧Zl e 6= .fn 120 [.ptr q 0] []∧Zl e 7= .fn 121 [.ptr q 0] []∧
  Frm [q] st s4∧Sl s4 sv 5 1 L.length (Xy L)∧Dv [] st sv∧Wj s4 q s k4∧s.drop k4=R4∧k4≤s.length) ?_ ?_
 ·cases hdot:Mw [46] R2 with
  | false=>
    simp only[hdot,Bool.false_eq_true,if_false]at q3 hL hR4
    subst hL hR4
    simp[go_sem]
    exact⟨f13,l1',mst,_,q3,p2,hle2⟩
  | true=>
    simp only[hdot,if_true]at q3 hL hR4
    obtain⟨c,r,hR2'⟩:∃c r,R2=c::r:=by
     cases R2 with
     | nil=>simp[Mw]at hdot
     | cons c r=>exact⟨c,r,rfl⟩
    have hlt:k1+D1.length<s.length:=by
     rcases Nat.lt_or_ge (k1+D1.length) s.length with h | h
     ·exact h
     ·rw[List.drop_of_length_le h]at p2;rw[←p2]at hR2';cases hR2'
    have p3:s.drop (k1+D1.length+1)=R2.tail:=by rw[←p2,List.tail_drop]
    simp[go_sem]
    refine(Zch H2 f3.wf (by omega) (by omega) q3).mono ?_
    rintro v2 s4 ⟨f4,m2,_,l2,q4⟩
    rw[p3]at l2 q4
    have l1'':=l1'.Ma f4 f3.wf (fun n hn=>by have:=hge1 n hn;have:=f1.nx;simp;omega)
    have f14:=f13.trans f4 (by simp)
    have hnx3:=f13.nx
    have hlen2:=Cp R2.tail
    have hlen1':=Cp (sgn s).2
    have hlen0:(sgn s).2.length≤s.length:=by rw[←p1];simp
    have hlR:R2.tail.length≤s.length:=by rw[←p3];simp
    have hD1l:D1.length≤s.length:=by omega
    have hap:=Sl.append (b:=1) (Frm.refl f4.wf v1.nms) (fun n h=> .inl h) l1'' l2.rd (Zaa7 _) (by omega) (by omega) (.inr (fun n c=>nk1 _ _ _ _))
    simp[go_sem]
    refine hap.mono ?_
    rintro v3 s5 ⟨j1,j2,j3,_⟩
    simp[go_sem]
    have hm3:Dv [] st v3:=fun n hn=>by
     rcases j3 n hn with h | h
     ·exact .inr (Nat.le_trans hnx1 (hge1 n h))
     ·exact .inr (Nat.le_trans f14.nx h)
    refine⟨f14.trans j2 (fun n hn=> .inr (Nat.le_trans hnx1 (hge1 n hn))),?_,hm3,_,j2.get f4.wf q4 (fun h=>by have:=hge1 q h;omega),?_,?_⟩
    ·rw[hL,List.length_append];rw[show Xy (D1++(Jm R2.tail).1)=Xy D1++Xy (Jm R2.tail).1 by simp[Xy]];exact j1
    ·rw[hR4,P5,←p3,List.drop_drop]
    ·have:R2.tail.length=s.length - (k1+D1.length+1):=by rw[←p3];simp
     omega
 rintro x e s4 ⟨rfl,k4,sv,c0,c2,c3,c4,c6,c7,f14,l4,m4,q4,p4,hle4⟩
 have hdec:Zlh s=(if L=[]then none else if Mw [101,69] R4=true then
   (if(Jm (sgn R4.tail).2).1.length<1∨3<(Jm (sgn R4.tail).2).1.length then none
    else if(Jm (sgn R4.tail).2).2=[]then some ((sgn s).1,L,D1.length+(if(sgn R4.tail).1=true then -(E0 (Jm (sgn R4.tail).2).1:Int)else E0 (Jm (sgn R4.tail).2).1))else none)
   else if R4=[]then some ((sgn s).1,L,(D1.length:Int))else none):=by
  simp only[Zlh,Zs3,Zli,←hD1,←hR2,←hL,←hR4]
 have hgeL:∀n∈sv.nms,st.nx≤n:=fun n hn=>by
  rcases m4 n hn with h | h
  ·cases h
  ·exact h
 have hlen4:=l4.lenOf (ev:=fun _=>sv) (x:= .t 0) rfl
 simp[PO.run]at hlen4
 clear hL hR4 hR2 hD1 p2 l1' l1 q3 q2 q1 hlen1
 by_cases hL0:L=[]
 ·subst hL0
  rw[hdec]
  simp only[List.length_nil]at hlen4
  simp[go_sem,c0,c2,c3,c4,c6,c7,hlen4]
  exact⟨.tuple [.bool false,.Zc,.int .i64 0,.bool false],by simp[Zt,Qn,Jk,go_sem],f14.Zb,_,_,_,rfl⟩
 have hLl:¬(L.length:Int)=0:=by
  have:L.length≠0:=fun h=>hL0 (List.length_eq_zero_iff.1 h)
  omega
 simp[go_sem,c0,c2,c3,c4,c6,c7,hlen4,hL0]
 refine(Zan H1 f14.wf (set:=[101,69]) (by omega) hle4 (by simp) q4).mono ?_
 rintro v2 s5 ⟨rfl,f5,q5⟩
 have f15:=f14.trans f5 (by simp)
 have l5:=l4.Ma f5 f14.wf (fun n hn=>by have:=hgeL n hn;simp;omega)
 rw[p4]at q5⊢
 simp[go_sem,c0,c2,c3,c4,c6,c7]
 refine Res.mono (Q:=fun x e s6=>(x= .norm∧∃(k:Nat) (pt:Int),Zl e 0= .ptr q 0∧Zl e 2= .bool (sgn s).1∧Zl e 3=sv∧Zl e 4= .int .i64 pt∧Frm [q] st s6∧Sl s6 sv 5 1 L.length (Xy L)∧
   Wj s6 q s k∧Zlh s=(if k=s.length then some ((sgn s).1,L,pt)else none))∨
   (x= .ret∧Frm [q] st s6∧Zlh s=none∧∃a b c,Zl e 2=a∧Zl e 3=b∧Zl e 4=c∧Zl e 5= .bool false)) ?_ ?_
 ·cases hexp:Mw [101,69] R4 with
  | false=>
    simp only[hexp,Bool.false_eq_true,if_false]at q5 hdec
    simp[go_sem,c0,c2,c3,c4]
    refine⟨f15,l5,k4,q5,?_⟩
    rw[hdec,if_neg hL0]
    have:(R4=[])↔k4=s.length:=by
     rw[←p4];simp;omega
    simp[this]
  | true=>
    simp only[hexp,if_true]at q5 hdec
    rw[if_neg hL0]at hdec
    obtain⟨c,r,hR4'⟩:∃c r,R4=c::r:=by
     cases R4 with
     | nil=>simp[Mw]at hexp
     | cons c r=>exact⟨c,r,rfl⟩
    have hlt:k4<s.length:=by
     rcases Nat.lt_or_ge k4 s.length with h | h
     ·exact h
     ·rw[List.drop_of_length_le h]at p4;rw[←p4]at hR4';cases hR4'
    have p5:s.drop (k4+1)=R4.tail:=by rw[←p4,List.tail_drop]
    have xa:=Ext.aside f15.wf 18
    simp[go_sem,c0,c2,c3,c4,c6,c7]
    refine(Zan H1 xa.wf (k:=k4+1) (set:=[43,45]) (by omega) (by omega) (by simp) (show Wj ⟨s5.h,s5.nx+18⟩ q s (k4+1)from q5)).mono ?_
    rintro v3 s6 ⟨rfl,f6,q6⟩
    obtain⟨b6,hb6⟩:∃b,b=Mw [43,45] R4.tail:=⟨_,rfl⟩
    rw[p5]at q6⊢
    rw[←hb6]at q6⊢
    have p6:s.drop (if b6=true then k4+1+1 else k4+1)=(sgn R4.tail).2:=by
     rw[←p5]
     exact Zaeo (by rw[p5];exact hb6)
    have k6le:(if b6=true then k4+1+1 else k4+1)≤s.length:=by
     cases hb:b6 with
     | false=>simp;omega
     | true=>
       obtain⟨c,r,h,_⟩:=(Ch R4.tail).2.2 (by rw[←hb6,hb])
       have:R4.tail.length=s.length - (k4+1):=by rw[←p5];simp
       rw[h]at this
       simp at this⊢
       omega
    have f16:=f15.trans ((xa.fr [q]).trans f6 (by simp)) (by simp)
    have l6:=(l5.ext xa f15.wf).Ma f6 xa.wf (fun n hn=>by have:=hgeL n hn;simp;omega)
    refine Zyw (fun e s'=>s'=s6∧Zl e 0= .ptr q 0∧Zl e 2= .bool (sgn s).1∧Zl e 3=sv∧Zl e 4= .int .i64 D1.length∧Zl e 7= .fn 121 [.ptr q 0] []∧Zl e 8= .bool (sgn R4.tail).1) ?_ ?_
    ·cases hb:b6 with
     | false=>
       have hneg:=(Ch R4.tail).2.1 (by rw[←hb6,hb])
       simp[go_sem,hneg,c0,c2,c3,c4,c7]
     | true=>
       obtain⟨c,r,h,hneg⟩:=(Ch R4.tail).2.2 (by rw[←hb6,hb])
       rw[hb]at q6
       simp only[if_true]at q6
       have r0:=q6.r0
       have r1:=q6.r1
       have hc0:s[k4+1]? =some c:=by
        have:(s.drop (k4+1))[0]? =some c:=by rw[p5,h];rfl
        simpa using this
       have e1:IntKind.i64.wrap ((k4:Int)+1)=k4+1:=Zo (by omega) (by omega)
       have e2:((k4:Int)+1).toNat=k4+1:=by omega
       have e3:(0:Int)≤(k4:Int)+1:=by omega
       simp[go_sem,RO.run,r0,r1,hc0,hneg,e1,e2,e3,c0,c2,c3,c4,c7]
       rw[←UInt8.toNat_inj]
       exact⟨fun h=>by have:(45:UInt8).toNat=45:=rfl;omega,fun h=>by have:(45:UInt8).toNat=45:=rfl;omega⟩
    rintro e' s' ⟨rfl,d0,d2,d3,d4,d7,d8⟩
    generalize hk6:(if b6=true then k4+1+1 else k4+1)=k6 at q6 p6 k6le
    simp[go_sem,d0,d2,d3,d4,d7,d8]
    refine(Zch H2 f16.wf (by omega) k6le q6).mono ?_
    rintro v4 s7 ⟨f7,m7,_,l7,q7⟩
    have f17:=f16.trans f7 (by simp)
    have l67:=l6.Ma f7 f16.wf (fun n hn=>by have:=hgeL n hn;simp;omega)
    rw[p6]at l7 q7
    generalize hE:(Jm (sgn R4.tail).2).1=E at l7 q7 hdec
    have hR7:(Jm (sgn R4.tail).2).2=s.drop (k6+E.length):=by rw[P5,hE,←p6,List.drop_drop]
    have hlen7:=l7.lenOf (ev:=fun _=>v4) (x:= .t 0) rfl
    simp[PO.run]at hlen7
    by_cases hbad:E.length<1∨3<E.length
    ·rw[if_pos hbad]at hdec
     by_cases h1:E.length<1
     ·have h1':(E.length:Int)<1:=by omega
      simp[go_sem,hlen7,h1',f17,hdec]
     ·have h1':¬(E.length:Int)<1:=by omega
      have h2':(3:Int)<E.length:=by omega
      simp[go_sem,hlen7,h1',h2',f17,hdec]
    ·rw[if_neg hbad]at hdec
     have h1':¬(E.length:Int)<1:=by omega
     have h2':¬(3:Int)<E.length:=by omega
     simp[go_sem,hlen7,h1',h2']
     rcases l7.view with ⟨_,hz,_⟩ | ⟨n,cp,hv4,hrd⟩
     ·omega
     subst hv4
     refine(Zyn (n:=n) (cp:=cp) (l:=E) (by omega) (fun d hd=>Oe _ d (by rw[hE];exact hd)) s7 f17.wf (fun i hi=>hrd i (by rw[Zkn];exact hi)) E.length 0 _ (by simp) ?_ ?_ ?_ ?_ ?_).mono ?_
     ·simp[go_sem]
     ·simp[go_sem]
     ·simp[go_sem]
     ·simp[go_sem,E0]
     ·simp[E0]
     ·rintro x e9 s8 ⟨rfl,rfl,w9,w0,w2,w3,w4,w8⟩
      simp[go_sem]at w0 w2 w3 w4 w8
      have hnb:E0 E<1000:=by
       have:=Zu6 (l:=E) (fun d hd=>Oe _ d (by rw[hE];exact hd))
       have hp:10 ^ E.length≤10 ^ 3:=Nat.pow_le_pow_right (by omega) (by omega)
       omega
      have hD1l:D1.length≤s.length:=by omega
      have hend:(s.drop (k6+E.length)=[])↔k6+E.length=s.length:=by
       have:k6+E.length≤s.length:=by
        have:=Cp (sgn R4.tail).2
        rw[hE,←p6,List.length_drop]at this
        omega
       rw[List.drop_eq_nil_iff]
       omega
      rw[hR7]at hdec
      cases hdn:(sgn R4.tail).1 with
      | false=>
        rw[hdn]at hdec w8
        simp only[Bool.false_eq_true,if_false]at hdec
        have e1:IntKind.i64.wrap ((D1.length:Int)+E0 E)=D1.length+E0 E:=Zo (by omega) (by omega)
        simp[go_sem,w9,w0,w2,w3,w4,w8,e1]
        refine⟨f17,l67,_,q7,?_⟩
        rw[hdec]
        simp only[hend]
      | true=>
        rw[hdn]at hdec w8
        simp only[if_true]at hdec
        have e0:IntKind.i64.wrap (-(E0 E:Int))= -(E0 E:Int):=Zo (by omega) (by omega)
        have e1:IntKind.i64.wrap ((D1.length:Int)+ -(E0 E:Int))=D1.length+ -(E0 E:Int):=Zo (by omega) (by omega)
        simp[go_sem,w9,w0,w2,w3,w4,w8,e0,e1]
        refine⟨f17,l67,_,q7,?_⟩
        rw[hdec]
        simp only[hend]
 ·rintro x e s6 (⟨rfl,k,pt,d0,d2,d3,d4,f16,l6,q6,hd⟩ | ⟨rfl,f16,hd,a,b,c,d2,d3,d4,d5⟩)
  ·have r0:=q6.r0
   have r1:=q6.r1
   have xa:=Ext.aside f16.wf 19
   have f17:=f16.trans (xa.fr [q]) (by simp)
   simp[go_sem,d0,d2,d3,d4,RO.run,r0,r1,Zt,Qn,Jk]
   refine⟨f17.Zb,?_⟩
   rw[hd]
   by_cases hk:k=s.length
   ·subst hk
    simp only[if_true]
    exact⟨sv,by simp,l6.Zb f16.wf,m4⟩
   ·have hk':¬(k:Int)=s.length:=by omega
    rw[if_neg hk]
    exact⟨.bool (sgn s).1,sv,.int .i64 pt,by simp[hk']⟩
  ·simp[go_sem,d2,d3,d4,d5,Zt,Qn,Jk]
   refine⟨f16.Zb,?_⟩
   rw[hd]
   exact⟨_,_,_,rfl⟩
end Go.Ev
