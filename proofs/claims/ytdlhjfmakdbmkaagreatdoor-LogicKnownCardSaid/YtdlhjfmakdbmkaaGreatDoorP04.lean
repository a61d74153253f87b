/- Functions of numbers, bools and strings that leave the heap alone: what the kernel finds in an empty state holds in any. -/
import Derived.Test.YtdlhjfmakdbmkaaGreatDoorP03
import Derived.KernelRfl
import Derived.Lib.Repeat
import Derived.Lib.Bytealg
import Derived.Laws.Externs
import Derived.Lib.LaidTab
import Derived.Lib.ItoaNum
import Derived.Lib.Case
set_option linter.unusedSimpArgs false
set_option linter.unusedVariables false
set_option linter.unusedSectionVars false
namespace Go.Ev
open Go
variable {T T' : Tab} {st : St}
def pureI (i:MI):Bool:=
 match i.op with
 | .p _=>true
 | .w (.call (.k (.fn _ [] [])) _)=>true
 | _=>false
def pureC:MCode→Bool
 | .skip | .exit _ | .ret | .keep _=>true
 | .reg l=>l.all pureI
 | .seq a b | .cond _ a b=>pureC a && pureC b
 | .block _ b | .loop b | .scope b=>pureC b
 | _=>false
def pureR:MRes→Bool
 | .t _=>true
 | _=>false
def PureIn (T' T:Tab):Prop:=(∀k,T'.en k=none)∧∀k mf,T'.fn k=some mf→T.fn k=some mf∧T.en k=none∧pureC mf.body=true∧mf.results.all pureR=true
abbrev s0:St:=⟨[],0⟩
def PureOK (T' T:Tab) (n:Nat):Prop:=
 ∀c e r,pureC c=true→exec T' n c e s0=some r→r.2.2=s0∧∀st:St,st.Wf→exec T n c e st=some (r.1,r.2.1,st)
theorem pure_results {e:Env} {v:AV} {h h':Heap}:∀{l:List MRes} {vs:List AV},l.all pureR=true→resVals h e l=some vs→resVals h' e l=some vs
 | [],vs,_,hv=>hv
 | .t n::l,vs,hl,hv=>by
   simp only[List.all_cons,Bool.and_eq_true]at hl
   simp only[resVals,resVal]at hv⊢
   split at hv
   ·rename_i v1 vs1 h1 h2
    cases h1
    rw[pure_results (v:=v) hl.2 h2]
    exact hv
   ·cases hv
 | .cell n s::l,vs,hl,hv=>by simp[pureR]at hl
theorem pure_call {n:Nat} (hin:PureIn T' T) (ih:PureOK T' T n) {k:Nat} {args:List AV} {r:AV×St} (h:evCall T' (exec T' n) (.fn k [] []) args s0=some r):
  r.2=s0∧∀st:St,st.Wf→evCall T (exec T n) (.fn k [] []) args st=some (r.1,st):=by
 simp only[evCall,evCallF,hin.1 k,List.nil_append,List.append_nil]at h⊢
 split at h
 ·cases h
 ·rename_i mf hmf
  obtain⟨h1,h2,h3,h4⟩:=hin.2 k mf hmf
  split at h
  case isFalse=>cases h
  rename_i hl
  have key:∀x e' s,exec T' n mf.body (argEnv 0 args) s0=some (x,e',s)→(x= .norm∨x= .ret)→(∀v,fresults s.h e' mf.results=some v→r=(v,⟨dropLoc s0.nx s.h,s.nx⟩)→
    r.2=s0∧∀st:St,st.Wf→(match T.en k with | some F=>F args st | none=>match T.fn k with | none=>none | some mf=>if args.length=mf.nargs then match exec T n mf.body (argEnv 0 args) st with
      | some (.norm,e',st') | some (.ret,e',st')=>(match fresults st'.h e' mf.results with | some v=>some (v,⟨dropLoc st.nx st'.h,st'.nx⟩) | none=>none) | _=>none else none)=some (r.1,st)):=by
   intro x e' s hx hxr v hv hr
   obtain⟨g1,g2⟩:=ih _ _ _ h3 hx
   simp only at g1
   subst g1
   subst hr
   refine⟨rfl,fun st hst=> ?_⟩
   have g3:=g2 st hst
   simp only at g3
   have hd:dropLoc st.nx st.h=st.h:=by
    rw[dropLoc_eq,locNames_nil (fun n o ho=>hst.lt n o ho),hdrop_nil]
   have hfr:fresults st.h e' mf.results=some v:=by
    unfold fresults at hv⊢
    cases hq:resVals s0.h e' mf.results with
    | none=>rw[hq]at hv;cases hv
    | some vs=>rw[hq]at hv;rw[pure_results (v:=v) h4 hq];exact hv
   simp only[h1,h2]
   rw[if_pos hl,g3]
   rcases hxr with rfl | rfl <;> simp only[hfr,hd]
  split at h <;> rename_i hx
  ·split at h <;> rename_i hv
   ·cases h;exact key _ _ _ hx (.inl rfl) _ hv rfl
   ·cases h
  ·split at h <;> rename_i hv
   ·cases h;exact key _ _ _ hx (.inr rfl) _ hv rfl
   ·cases h
  ·cases h
theorem pure_ops {n:Nat} (hin:PureIn T' T) (ih:PureOK T' T n):∀{l:List MI} {e:Env} {r:Env×St},l.all pureI=true→runOps (evCall T' (exec T' n)) l e s0=some r→
  r.2=s0∧∀st:St,st.Wf→runOps (evCall T (exec T n)) l e st=some (r.1,st)
 | [],e,r,_,h=>by cases h;exact⟨rfl,fun _ _=>rfl⟩
 | i::l,e,r,hl,h=>by
   simp only[List.all_cons,Bool.and_eq_true]at hl
   obtain⟨hi,hl⟩:=hl
   simp only[runOps]at h⊢
   split at h
   case h_2=>cases h
   rename_i e1 st1 h1
   have one:st1=s0∧∀st:St,st.Wf→i.run (evCall T (exec T n)) e st=some (e1,st):=by
    obtain⟨d,g,o⟩:=i
    unfold MI.run at h1⊢
    simp only at h1⊢
    split at h1
    ·rename_i hw
     simp only[pureI]at hi
     cases o with
     | p o=>
       simp only[MO.run]at h1⊢
       split at h1
       ·rename_i v1 st2 h2
        split at h2
        ·rename_i v2 h3
         cases h2
         cases h1
         exact⟨rfl,fun st _=>by simp⟩
        ·cases h2
       ·cases h1
     | w o=>
       cases o with
       | call f xs=>
         cases f with
         | k v=>
           cases v with
           | fn k a b=>
             cases a with
             | nil=>
               cases b with
               | nil=>
                 simp only[MO.run,WO.run,AO.ev]at h1⊢
                 split at h1
                 ·rename_i v1 st2 h2
                  obtain⟨g1,g2⟩:=pure_call hin ih h2
                  simp only at g1
                  subst g1
                  cases h1
                  refine⟨rfl,fun st hst=> ?_⟩
                  have g3:=g2 st hst
                  simp only at g3
                  simp only[g3]
                 ·cases h1
               | cons=>simp at hi
             | cons=>simp at hi
           | _=>simp at hi
         | t=>simp at hi
       | _=>simp at hi
     | _=>simp at hi
    ·rename_i hw
     cases h1
     exact⟨rfl,fun st _=>by simp⟩
    ·cases h1
   obtain⟨rfl,one⟩:=one
   obtain⟨g1,g2⟩:=pure_ops hin ih hl h
   exact⟨g1,fun st hst=>by simp only[one st hst];exact g2 st hst⟩
theorem pure_ok (hin:PureIn T' T):∀n,PureOK T' T n
 | 0=>fun c e r _ h=>by cases h
 | n+1=>by
   have ih:=pure_ok hin n
   intro c e r hc h
   rw[exec_succ]at h
   have two:∀{a b:MCode},pureC a=true→pureC b=true→(match exec T' n a e s0 with | some (.norm,e,st)=>exec T' n b e st | r=>r)=some r→
     r.2.2=s0∧∀st:St,st.Wf→(match exec T n a e st with | some (.norm,e,st)=>exec T n b e st | r=>r)=some (r.1,r.2.1,st):=by
    intro a b ha hb h
    split at h
    ·rename_i e1 st1 h1
     obtain⟨g1,g2⟩:=ih _ _ _ ha h1
     simp only at g1
     subst g1
     obtain⟨k1,k2⟩:=ih _ _ _ hb h
     exact⟨k1,fun st hst=>by rw[g2 st hst];exact k2 st hst⟩
    ·rename_i hne
     obtain⟨g1,g2⟩:=ih _ _ _ ha h
     refine⟨g1,fun st hst=> ?_⟩
     rw[g2 st hst]
     obtain⟨x,e1,s1⟩:=r
     simp only at g1
     subst g1
     cases x with
     | norm=>exact absurd h (hne _ _)
     | _=>rfl
   cases c with
   | skip=>cases h;exact⟨rfl,fun st _=>rfl⟩
   | exit i=>cases h;exact⟨rfl,fun st _=>rfl⟩
   | ret=>cases h;exact⟨rfl,fun st _=>rfl⟩
   | keep l=>cases h;exact⟨rfl,fun st _=>rfl⟩
   | reg l=>
     simp only[pureC]at hc
     simp only[evStep]at h
     split at h
     ·rename_i e1 st1 h1
      obtain⟨g1,g2⟩:=pure_ops hin ih hc h1
      cases h
      refine⟨g1,fun st hst=> ?_⟩
      rw[exec_succ]
      simp only[evStep,g2 st hst]
     ·cases h
   | seq a b=>
     simp only[pureC,Bool.and_eq_true]at hc
     by_cases hk:∃l,a= .keep l
     ·obtain⟨l,rfl⟩:=hk
      simp only[evStep]at h
      obtain⟨g1,g2⟩:=ih _ _ _ hc.2 h
      refine⟨g1,fun st hst=> ?_⟩
      rw[exec_succ]
      simp only[evStep]
      exact g2 st hst
     ·have e1:∀(T:Tab) (ex:ExF) st,evStep T ex (.seq a b) e st=(match ex a e st with | some (.norm,e,st)=>ex b e st | r=>r):=by
       intro T ex st
       cases a <;> first | rfl | exact absurd ⟨_,rfl⟩ hk
      rw[e1]at h
      obtain⟨g1,g2⟩:=two hc.1 hc.2 h
      refine⟨g1,fun st hst=> ?_⟩
      rw[exec_succ,e1]
      exact g2 st hst
   | cond x a b=>
     simp only[pureC,Bool.and_eq_true]at hc
     simp only[evStep]at h
     split at h
     ·rename_i hx
      obtain⟨g1,g2⟩:=ih _ _ _ hc.1 h
      exact⟨g1,fun st hst=>by rw[exec_succ];simp only[evStep,hx];exact g2 st hst⟩
     ·rename_i hx
      obtain⟨g1,g2⟩:=ih _ _ _ hc.2 h
      exact⟨g1,fun st hst=>by rw[exec_succ];simp only[evStep,hx];exact g2 st hst⟩
     ·cases h
   | block i b=>
     simp only[pureC]at hc
     simp only[evStep]at h
     split at h
     ·rename_i i2 e2 st2 h1
      obtain⟨g1,g2⟩:=ih _ _ _ hc h1
      simp only at g1
      subst g1
      split at h
      ·rename_i hi
       cases h
       exact⟨rfl,fun st hst=>by rw[exec_succ];simp only[evStep,g2 st hst];rw[if_pos hi]⟩
      ·rename_i hi
       cases h
       exact⟨rfl,fun st hst=>by rw[exec_succ];simp only[evStep,g2 st hst];rw[if_neg hi]⟩
     ·rename_i hne
      obtain⟨g1,g2⟩:=ih _ _ _ hc h
      refine⟨g1,fun st hst=> ?_⟩
      rw[exec_succ]
      simp only[evStep,g2 st hst]
      obtain⟨x,e1,s1⟩:=r
      cases x with
      | exit i=>exact absurd h (hne _ _ _)
      | _=>rfl
   | loop b=>
     simp only[pureC]at hc
     simp only[evStep]at h
     obtain⟨g1,g2⟩:=two hc (b:= .loop b) hc h
     refine⟨g1,fun st hst=> ?_⟩
     rw[exec_succ]
     simp only[evStep]
     exact g2 st hst
   | scope b=>
     simp only[pureC]at hc
     simp only[evStep]at h
     obtain⟨g1,g2⟩:=ih _ _ _ hc h
     exact⟨g1,fun st hst=>by rw[exec_succ];simp only[evStep];exact g2 st hst⟩
   | rangeFunc=>cases hc
   | rangeMap=>cases hc
   | regd=>cases hc
   | stuck=>cases hc
noncomputable def saysP (T':Tab) (n:Nat) (mf:MFun) (args:List AV) (v:AV):Bool:=
 pureC mf.body && mf.results.all pureR &&
 match exec T' n mf.body (argEnv 0 args) s0 with
 | some (.norm,e,s) | some (.ret,e,s)=>(match fresults s.h e mf.results with | some u=>avEq u v | none=>false)
 | _=>false
theorem tells_pure {n k:Nat} {mf:MFun} (hin:PureIn T' T) (hen:T.en k=none) (hf:T.fn k=some mf) (hst:st.Wf) {args:List AV} {v:AV} (hl:args.length=mf.nargs) (hs:saysP T' n mf args v=true):
  Tells T st (.fn k [] []) args v:=by
 unfold saysP at hs
 simp only[Bool.and_eq_true]at hs
 obtain⟨⟨h1,h2⟩,h3⟩:=hs
 refine tells_of hen hf (by simpa using hl) ?_
 simp only[List.nil_append,List.append_nil]
 have key:∀x e s,exec T' n mf.body (argEnv 0 args) s0=some (x,e,s)→(x= .norm∨x= .ret)→(match fresults s.h e mf.results with | some u=>avEq u v | none=>false)=true→
   Res (run T mf.body (argEnv 0 args) st) fun x e s=>(x= .norm∨x= .ret)∧fresults s.h e mf.results=some v∧Ext st s:=by
  intro x e s hx hxr hv
  obtain⟨g1,g2⟩:=pure_ok hin n _ _ _ h1 hx
  simp only at g1
  subst g1
  have g3:=run_iff.2 ⟨n,g2 st hst⟩
  rw[g3]
  refine⟨hxr,?_,.refl hst⟩
  split at hv
  ·rename_i u hu
   have:=avEq_eq hv
   subst this
   unfold fresults at hu⊢
   cases hq:resVals s0.h e mf.results with
   | none=>rw[hq]at hu;cases hu
   | some vs=>rw[hq]at hu;rw[pure_results (v:=u) h2 hq];exact hu
  ·cases hv
 split at h3 <;> rename_i hx
 ·exact key _ _ _ hx (.inl rfl) h3
 ·exact key _ _ _ hx (.inr rfl) h3
 ·cases h3
def T0:Tab:=⟨fun _=>none,fun _=>none⟩
theorem pureIn0:PureIn T0 T:=⟨fun _=>rfl,fun _ _ h=>by cases h⟩
def T1 (k:Nat) (m:MFun):Tab:=⟨fun i=>if i=k then some m else none,fun _=>none⟩
theorem all_octets {P:Nat→Bool} (h:(List.range 256).all P=true) (c:UInt8):P c.toNat=true:=List.all_eq_true.1 h _ (List.mem_range.2 c.toNat_lt)
end Go.Ev

/- An entry of the table out of a contract: a function of the library that is called. -/
namespace Go.Ev
open Go Go.RowKit
variable {X : Cx} {N : Nu} {D : ChkD}
theorem HR.below {h:Heap} {w w':World} (hr:HR D X N h w) (b:Below w.heap.size w w'):HR D X N h w':=
 ⟨fun n o ho=>(hr.objs n o ho).keep (.refl N) b.size (fun a ha=>b.block _ ((hr.objs n o ho).lt ha)),hr.sep⟩
theorem Gd.below {h:Heap} {w w':World} (b:Below w.heap.size w w'):Gd N h w N h w':=
 ⟨.refl N,b.size,b.tape,b.os,b.output,fun k hk _=>b.block k hk,fun n o a h1 h2=> .inl ⟨n,o,a,h1,h2,rfl,id⟩⟩
def bodyB (P:Program) (f:FuncId):Bool:=
 match P.funcs[f]? with
 | some fn=>fn.body.isSome && !(fn.name == "runtime.NumGoroutine")
 | none=>false
theorem callsTo_of_calls {P:Program} {f:FuncId} {us:Array Value} {w w':World} {u:Value} {c:Frame} {cs:List Frame} (hb:bodyB P f=true)
  (h:∃fr,Comes P (lone (Frame.enter P f us .normal) (c::cs) w) (lone fr (c::cs) w') (.returned u)∧fr.leaving P w' (.returned u)):CallsTo P (callFunc f us) w c cs u w':=by
 unfold bodyB at hb
 split at hb
 case h_2=>cases hb
 rename_i fn hf
 simp only[Bool.and_eq_true,Bool.not_eq_true']at hb
 obtain⟨body,hbody⟩:=Option.isSome_iff_exists.1 hb.1
 obtain⟨fr,h1,h2⟩:=h
 have hcf:(callFunc f us).run P w= .ok (.enter f us) w:=by
  have hname':¬fn.name= "runtime.NumGoroutine" :=by simpa using hb.2
  simp[callFunc,hf,hname',hbody]
 refine⟨.enter f us,w,hcf,.inr (.inl ⟨_,_,rfl,?_⟩)⟩
 exact Steps.trans h1 (.one (step_leave_returned h2))
theorem entry_of_calls {f:Nat} {F:Entry} (hb:bodyB X.P (X.φ f)=true)
  (h:∀args st v st',F args st=some (v,st')→st'=st∧∀N us,VRs X N args us→∃u,VR X N v u∧∀w,Calls X.P (X.φ f) us.toArray w fun e w'=>e= .returned u∧Below w.heap.size w w'):EntryOK D X f F:=by
 intro args st v st' hF N w us hr hv c cs
 obtain⟨rfl,h1⟩:=h args st v st' hF
 obtain⟨u,hu,h2⟩:=h1 N us hv
 obtain⟨e,w',fr,⟨rfl,hbel⟩,hc,_,hl⟩:=h2 w (c::cs)
 exact⟨N,u,w',hu,⟨hr.hr.below hbel,hr.fresh⟩,Gd.below hbel,Nat.le_refl _,fun _ _=>rfl,callsTo_of_calls hb ⟨fr,hc,hl⟩⟩
end Go.Ev

/- strings.Repeat as an entry of the table. -/
namespace Go.Ev
open Go Go.RowKit
variable {X : Cx} {D : ChkD} {T : Tab} {st : St}
theorem call_entry {k:Nat} {F:Entry} (h:T.en k=some F) {first args cap:List AV}:call T (.fn k first cap) args st=F (first++args++cap) st:=by
 simp only[call,evCall,evCallF,h]
end Go.Ev

/- Functions of the library as entries of the table: what each answers, and how a contract or a plain run makes the entry. -/
namespace Go.Ev
open Go Go.RowKit
variable {X : Cx} {D : ChkD} {T : Tab} {st : St}
theorem entry_of_extern {f:Nat} {F:Entry} {fn:Func} {e:Array Value→Sem Value} (hf:X.P.funcs[X.φ f]? =some fn) (hname:(fn.name == "runtime.NumGoroutine")=false) (hb:fn.body.isNone=true)
  (hn:Extern.findNext fn=none) (he:Extern.find fn=some e)
  (h:∀args st v st',F args st=some (v,st')→st'=st∧∀N us,VRs X N args us→∃u,VR X N v u∧∀w,(e us.toArray).run X.P w= .ok u w):EntryOK D X f F:=by
 intro args st v st' hF N w us hr hv c cs
 obtain⟨rfl,h1⟩:=h args st v st' hF
 obtain⟨u,hu,h2⟩:=h1 N us hv
 have h3:=run_callFunc_extern hf hname hb hn he us.toArray w
 rw[h2 w]at h3
 exact⟨N,u,w,hu,hr,.refl _ _ _,Nat.le_refl _,fun _ _=>rfl,.value u,w,h3,.inl ⟨rfl,rfl⟩⟩
namespace B
def E_abi_NoEscape:Entry:=fun args st=>match args with
 | [.ptr n o]=>some (.ptr n o,st)
 | _=>none
def E_strings_IndexByte:Entry:=fun args st=>match args with
 | [.str s,.int .u8 c]=>some (.int .i64 (Lib.indexByte s c.toNat.toUInt8),st)
 | _=>none
def E_stringslite_Index:Entry:=fun args st=>match args with
 | [.str s,.str [c]]=>some (.int .i64 (Lib.indexByte s c),st)
 | _=>none
def gPow10:Nat:=4
def av64:AV→Option Int
 | .int .u64 n=>some n
 | _=>none
def hasPow (h:Heap):Bool:=h.any fun p=>match hget h p.1 with
 | some (.glob g cs)=>decide (g=gPow10) && decide (cs.map av64=Lib.pow10Tab.map some)
 | _=>false
def E_strconv_Itoa:Entry:=fun args st=>match args with
 | [.int .i64 n]=>if hasPow st.h=true∧-9223372036854775808≤n∧n≤9223372036854775807 then some (.str (Lib.itoa n),st)else none
 | _=>none
end B
theorem noescape_entry {f:Nat} {fn:Func} (hf:X.P.funcs[X.φ f]? =some fn) (hname:(fn.name == "runtime.NumGoroutine")=false) (hb:fn.body.isNone=true)
  (hn:Extern.findNext fn=none) (he:Extern.find fn=some Extern.AbiNoEscape.same):EntryOK D X f B.E_abi_NoEscape:=by
 refine entry_of_extern hf hname hb hn he fun args st v st' hF=> ?_
 unfold B.E_abi_NoEscape at hF
 split at hF
 case h_2=>cases hF
 cases hF
 refine⟨rfl,fun N us hus=> ?_⟩
 obtain⟨u0,us0,rfl,h0,rfl⟩:=hus
 exact⟨u0,h0,fun w=>rfl⟩
theorem indexByte_entry {f:Nat} (hb:bodyB X.P (X.φ f)=true)
  (h:∀(s:ByteArray) (c:Int) (w:World),Calls X.P (X.φ f) #[.string s,.int .u8 c] w fun e w'=>e= .returned (.int .i64 (Lib.indexByte s.data.toList c.toNat.toUInt8))∧w'=w):EntryOK D X f B.E_strings_IndexByte:=by
 refine entry_of_calls hb fun args st v st' hF=> ?_
 unfold B.E_strings_IndexByte at hF
 split at hF
 case h_2=>cases hF
 cases hF
 refine⟨rfl,fun N us hus=> ?_⟩
 obtain⟨u0,us0,rfl,h0,u1,us1,rfl,h1,rfl⟩:=hus
 cases h0
 cases h1
 refine⟨_,rfl,fun w=> ?_⟩
 refine(h ⟨_⟩ _ w).mono fun e w' ⟨h1,h2⟩=>⟨by simpa using h1,?_⟩
 subst h2
 exact Below.refl _ _
theorem index1_entry {f:Nat} (hb:bodyB X.P (X.φ f)=true)
  (h:∀(s:ByteArray) (c:UInt8) (w:World),Calls X.P (X.φ f) #[.string s,.string ⟨#[c]⟩] w fun e w'=>e= .returned (.int .i64 (Lib.indexByte s.data.toList c))∧w'=w):EntryOK D X f B.E_stringslite_Index:=by
 refine entry_of_calls hb fun args st v st' hF=> ?_
 unfold B.E_stringslite_Index at hF
 split at hF
 case h_2=>cases hF
 cases hF
 refine⟨rfl,fun N us hus=> ?_⟩
 obtain⟨u0,us0,rfl,h0,u1,us1,rfl,h1,rfl⟩:=hus
 cases h0
 cases h1
 refine⟨_,rfl,fun w=> ?_⟩
 refine(h ⟨_⟩ _ w).mono fun e w' ⟨h1,h2⟩=>⟨by simpa using h1,?_⟩
 subst h2
 exact Below.refl _ _
theorem entry_of_calls2 {f:Nat} {F:Entry} (hb:bodyB X.P (X.φ f)=true)
  (h:∀args st v st',F args st=some (v,st')→st'=st∧∀N us w,HR D X N st.h w→VRs X N args us→∃u,VR X N v u∧Calls X.P (X.φ f) us.toArray w fun e w'=>e= .returned u∧Below w.heap.size w w'):EntryOK D X f F:=by
 intro args st v st' hF N w us hr hv c cs
 obtain⟨rfl,h1⟩:=h args st v st' hF
 obtain⟨u,hu,h2⟩:=h1 N us w hr.hr hv
 obtain⟨e,w',fr,⟨rfl,hbel⟩,hc,_,hl⟩:=h2 (c::cs)
 exact⟨N,u,w',hu,⟨hr.hr.below hbel,hr.fresh⟩,Gd.below hbel,Nat.le_refl _,fun _ _=>rfl,callsTo_of_calls hb ⟨fr,hc,hl⟩⟩
theorem vrs_u64 {N:Nu}:∀{zs:List Int} {cs:List AV} {us:List Value},cs.map B.av64=zs.map some→VRs X N cs us→us=zs.map fun z=>Value.int .u64 z
 | [],[],us,_,h=>h
 | [],_::_,us,e,h=>by simp at e
 | _::_,[],us,e,h=>by simp at e
 | z::zs,c::cs,us,e,h=>by
   simp only[List.map_cons,List.cons.injEq]at e
   obtain⟨u,us,rfl,h0,h1⟩:=h
   have hc:c= .int .u64 z:=by
    have:=e.1
    unfold B.av64 at this
    split at this
    ·cases this;rfl
    ·cases this
   subst hc
   cases h0
   rw[vrs_u64 e.2 h1];rfl
theorem hasPow_of {h:Heap} {m:Nat} {cs:List AV} (hg:hget h m=some (.glob B.gPow10 cs)) (hc:cs.map B.av64=Lib.pow10Tab.map some):B.hasPow h=true:=by
 unfold B.hasPow
 rw[List.any_eq_true]
 exact⟨_,hget_mem hg,by simp only[hg];simp[hc]⟩
theorem itoa_entry {f:Nat} (hb:bodyB X.P (X.φ f)=true) (hname:X.P.globalNamed "internal/strconv.uint64pow10" =some (X.γ B.gPow10))
  (h:∀(n:Int) (w:World), -9223372036854775808≤n→n≤9223372036854775807→Lib.TabIs X.P w "internal/strconv.uint64pow10" .u64 Lib.pow10Tab→Calls X.P (X.φ f) #[.int .i64 n] w fun e w'=>e= .returned (.string ⟨(Lib.itoa n).toArray⟩)∧Below w.heap.size w w'):EntryOK D X f B.E_strconv_Itoa:=by
 refine entry_of_calls2 hb fun args st v st' hF=> ?_
 unfold B.E_strconv_Itoa at hF
 split at hF
 case h_2=>cases hF
 split at hF
 case isFalse=>cases hF
 rename_i hc
 cases hF
 refine⟨rfl,fun N us w hr hus=> ?_⟩
 obtain⟨u0,us0,rfl,h0,rfl⟩:=hus
 cases h0
 refine⟨_,rfl,h _ w hc.2.1 hc.2.2 ?_⟩
 have hp:=hc.1
 unfold B.hasPow at hp
 rw[List.any_eq_true]at hp
 obtain⟨p,_,hp⟩:=hp
 split at hp
 case h_2=>cases hp
 rename_i g cs hg
 simp only[Bool.and_eq_true,decide_eq_true_eq]at hp
 obtain⟨rfl,hcs⟩:=hp
 obtain⟨us,t,fz,_,hw,hv⟩:=hr.objs _ _ hg
 have:=vrs_u64 hcs hv
 unfold Lib.TabIs World.var?
 rw[hname]
 simp only[Option.bind_some,hw]
 rw[←this]
end Go.Ev

/- The abstract bodies of the functions, printed by a program of this work. -/
namespace Go.Ev.B
open Go
def lex_Number_l0:MCode:=(.seq (.keep [2,3,14,15]) (.seq (.reg [p 16 (.bin .lss 15 (.k (.int .i64 3)))]) (.seq (.cond 16 .skip (.exit 0)) (.seq (.block 1 (.seq (.reg [p 17 (.idxA
 3 1 none 14 15),p 6 (.mov 17)]) (.seq (.reg [p 19 (.mov 6),w 20 (.call 19 []),p 18 (.mov 20),p 21 (.extr 0 18),p 22 (.extr 1 18),w0 (.store 3 2 21),p 3 (.mov 22)]) (.seq (.reg
 [p 23 (.mov 3),p 24 (.bin .neq 23 (.k (.int .i64 5)))]) (.cond 24 (.exit 0) .skip))))) (.seq (.keep [2,3,14,15]) (.reg [p 25 (.bin .add 15 (.k (.int .i64 1))),p 15 (.mov 25)]))))))
def lex_Number:MFun:=⟨1,[.cell 2 (some 3),.t 3],(.seq (.reg [n 2 (.alloc 134 true [(.int .i64 0),(.int .i64 0),(.str [])]),p 3 (.mov (.k (.int .i64 0)))]) (.scope (.seq (.reg
 [p 7 (.mov 0),p 4 (.mov 7)]) (.seq .skip (.seq (.seq (.reg [p 8 (.mov 4),p 9 (.mkfn 75 [8] []),p 10 (.mov 4),p 11 (.mkfn 76 [10] []),p 12 (.mov 4),p 13 (.mkfn 77 [12] []),p 14
 (.build [.nilfn,.nilfn,.nilfn] [(0,1,9),(1,1,11),(2,1,13)]),p 15 (.mov (.k (.int .i64 0)))]) (.seq (.keep [2,3,14,15]) (.block 0 (.loop lex_Number_l0)))) (.seq (.keep
 [2,3]) (.seq (.reg [r 26 (.load (some 3) 2),p 27 (.mov 3),w0 (.store 3 2 26),p 3 (.mov 27)]) .ret)))))))⟩
def chaseref03_Number_l0:MCode:=(.seq (.keep [0,2,7]) (.seq (.seq (.reg [p 45 (.mov 7),p 46 (.bin .leq 45 (.k (.int .i64 2))),p 47 (.mov 46),pg 48 47 true (.mov 7),pg 49 47
 true (.mov 0),pg 50 47 true (.lenOf true 49),pg 51 47 true (.bin .lss 48 50),p 52 (.pick 47 51 (.k (.bool false)))]) (.cond 52 .skip (.exit 0))) (.seq (.keep [0,2,7]) (.seq (.block
 1 (.seq (.reg [p 55 (.mov 0),p 56 (.mov 7),p 57 (.subS 55 none (some 56)),w 58 (.call (.k (.fn 78 [] [])) [57,(.k (.int .i64 10))]),p 8 (.mov 58)]) (.seq (.reg [p 59 (.mov 0),
 p 60 (.mov 7),p 61 (.idxS 59 60),p 62 (.bin .eql 61 (.k (.int .u8 35))),p 63 (.mov 62),pg 64 63 true (.mov 8),pg 65 63 true (.bin .geq 64 (.k (.int .i64 2))),p 66 (.pick 63 65
 (.k (.bool false))),p 67 (.mov 66),pg 68 67 true (.mov 8),pg 69 67 true (.bin .leq 68 (.k (.int .i64 36))),p 70 (.pick 67 69 (.k (.bool false))),p 71 (.mov 70),pg 72 71 true (.mov
 0),pg 73 71 true (.mov 7),pg 74 71 true (.bin .add 73 (.k (.int .i64 1))),pg 75 71 true (.subS 72 (some 74) none),pg 76 71 true (.mov 8),wg 77 71 true (.call (.k (.fn 78 [] []))
 [75,76]),pg 78 71 true (.bin .geq 77 (.k (.int .i64 0))),p 79 (.pick 71 78 (.k (.bool false)))]) (.seq (.keep [0,2,7,8,79]) (.cond 79 (.seq (.reg [p 80 (.mov 0),p 81 (.mov 7),
 p 82 (.bin .add 81 (.k (.int .i64 1))),p 83 (.subS 80 (some 82) none),p 84 (.mov 8),w 85 (.call (.k (.fn 78 [] [])) [83,84]),p 86 (.mov 0),p 87 (.lenOf true 86),w 88 (.call (.k
 (.fn 79 [] [])) [85,87]),p 89 (.extr 0 88),p 90 (.extr 1 88),w0 (.store 3 2 89),p 3 (.mov 90)]) .ret) .skip))))) (.seq (.keep [0,2,7]) (.reg [p 53 (.mov 7),p 54 (.bin .add 53
 (.k (.int .i64 1))),p 7 (.mov 54)]))))))
def chaseref03_Number:MFun:=⟨1,[.cell 2 (some 3),.t 3],(.seq (.reg [n 2 (.alloc 134 true [(.int .i64 0),(.int .i64 0),(.str [])]),p 3 (.mov (.k (.int .i64 0)))]) (.seq (.reg
 [p 15 (.mov 0),p 4 (.mov 15),p 5 (.mov (.k (.int .i64 1)))]) (.seq (.seq (.reg [p 16 (.mov 0),p 17 (.bin .neq 16 (.k (.str []))),p 18 (.mov 17),pg 19 18 true (.mov 0),pg 20 18
 true (.idxS 19 (.k (.int .i64 0))),pg 21 18 true (.bin .eql 20 (.k (.int .u8 45))),pg 22 18 true (.mov 21),pg 23 22 false (.mov 0),pg 24 22 false (.idxS 23 (.k (.int .i64 0))),
 pg 25 22 false (.bin .eql 24 (.k (.int .u8 43))),pg 26 18 true (.pick 22 (.k (.bool true)) 25),p 27 (.pick 18 26 (.k (.bool false)))]) (.seq (.keep [0,2,4,5,27]) (.cond 27 (.seq
 (.reg [p 28 (.mov 0),p 29 (.subS 28 (some (.k (.int .i64 1))) none),p 4 (.mov 29)]) (.seq (.reg [p 30 (.mov 0),p 31 (.idxS 30 (.k (.int .i64 0))),p 32 (.bin .eql 31 (.k (.int .u8
 45)))]) (.cond 32 (.reg [p 5 (.mov (.k (.int .i64 (-1))))]) .skip))) .skip))) (.seq (.keep [0,2,4,5]) (.seq (.seq (.reg [p 33 (.mov 4),w 34 (.call (.k (.fn 78 [] [])) [33,(.k (.int
 .i64 10))]),p 6 (.mov 34)]) (.seq (.reg [p 35 (.mov 6),p 36 (.bin .geq 35 (.k (.int .i64 0)))]) (.cond 36 (.seq (.reg [p 37 (.mov 5),p 38 (.mov 6),p 39 (.bin .mul 37 38),p 40 (.mov
 0),p 41 (.lenOf true 40),w 42 (.call (.k (.fn 79 [] [])) [39,41]),p 43 (.extr 0 42),p 44 (.extr 1 42),w0 (.store 3 2 43),p 3 (.mov 44)]) .ret) .skip))) (.seq (.keep [0,2]) (.seq
 (.seq (.reg [p 7 (.mov (.k (.int .i64 1)))]) (.block 0 (.loop chaseref03_Number_l0))) (.seq (.keep [0,2]) (.seq (.reg [p 92 (.mov 0),w 93 (.call (.k (.fn 80 [] [])) [92]),p 91 (.mov
 93),p 94 (.extr 0 91),p 95 (.extr 1 91),p 96 (.extr 2 91),p 97 (.extr 3 91),p 9 (.mov 94),p 10 (.mov 95),p 11 (.mov 96),p 12 (.mov 97)]) (.seq (.keep [0,2,12]) (.seq (.seq
 (.reg [p 98 (.mov 12),p 99 (.un .not 98)]) (.cond 99 (.seq (.reg [p 100 (.build [(.int .i64 0),(.int .i64 0),(.str [])] []),w0 (.store 3 2 100),p 3 (.mov (.k (.int .i64 5)))])
 .ret) .skip)) (.seq (.reg [p 102 (.mov 0),w 103 (.call (.k (.fn 81 [] [])) [102]),p 101 (.mov 103),p 104 (.extr 0 101),p 105 (.extr 1 101),p 13 (.mov 104),p 14 (.mov 105)]) (.seq
 (.seq (.reg [p 106 (.mov 14),p 107 (.bin .neq 106 (.k (.int .i64 0)))]) (.cond 107 (.seq (.reg [p 108 (.build [(.int .i64 0),(.int .i64 0),(.str [])] []),w0 (.store 3 2 108),p
 3 (.mov (.k (.int .i64 26)))]) .ret) .skip)) (.seq (.reg [p 109 (.mov 13),p 110 (.build [(.int .i64 0),(.int .i64 0),(.str [])] [(0,1,(.k (.int .i64 2))),(1,1,109)]),w0 (.store
 3 2 110),p 3 (.mov (.k (.int .i64 0)))]) .ret))))))))))))))⟩
def lex_numeral_whole:MFun:=⟨1,[.cell 2 (some 3),.t 3],(.seq (.reg [n 2 (.alloc 134 true [(.int .i64 0),(.int .i64 0),(.str [])]),p 3 (.mov (.k (.int .i64 0)))]) (.seq (.reg
 [p 8 (.mov 0),p 4 (.mov 8),p 5 (.mov (.k (.int .i64 1)))]) (.seq (.seq (.reg [p 9 (.mov 4),w 10 (.call (.k (.fn 94 [] [])) [9,(.k (.str [45]))])]) (.cond 10 (.reg [p 5 (.mov (.k
 (.int .i64 (-1))))]) .skip)) (.seq (.seq (.reg [p 11 (.mov 4),p 12 (.bin .neq 11 (.k (.str []))),p 13 (.mov 12),pg 14 13 true (.mov 4),pg 15 13 true (.idxS 14 (.k (.int .i64 0))),
 pg 16 13 true (.bin .eql 15 (.k (.int .u8 45))),pg 17 13 true (.mov 16),pg 18 17 false (.mov 4),pg 19 17 false (.idxS 18 (.k (.int .i64 0))),pg 20 17 false (.bin .eql 19 (.k (.int
 .u8 43))),pg 21 13 true (.pick 17 (.k (.bool true)) 20),p 22 (.pick 13 21 (.k (.bool false)))]) (.seq (.keep [0,2,4,5,22]) (.cond 22 (.reg [p 23 (.mov 4),p 24 (.subS 23 (some
 (.k (.int .i64 1))) none),p 4 (.mov 24)]) .skip))) (.seq (.keep [0,2,4,5]) (.seq (.reg [p 26 (.mov 4),w 27 (.call (.k (.fn 95 [] [])) [26,(.k (.int .i64 10))]),p 25 (.mov 27),
 p 28 (.extr 0 25),p 29 (.extr 1 25),p 6 (.mov 28),p 7 (.mov 29)]) (.seq (.seq (.reg [p 30 (.mov 7),p 31 (.un .not 30)]) (.cond 31 (.seq (.reg [p 32 (.build [(.int .i64 0),(.int
 .i64 0),(.str [])] []),w0 (.store 3 2 32),p 3 (.mov (.k (.int .i64 5)))]) .ret) .skip)) (.seq (.reg [p 33 (.mov 0),p 34 (.mov 5),p 35 (.mov 6),p 36 (.bin .mul 34 35),w 37 (.call
 (.k (.fn 96 [] [])) [33,36]),p 38 (.extr 0 37),p 39 (.extr 1 37),w0 (.store 3 2 38),p 3 (.mov 39)]) .ret))))))))⟩
def lex_numeral_radix:MFun:=⟨1,[.cell 2 (some 3),.t 3],(.seq (.reg [n 2 (.alloc 134 true [(.int .i64 0),(.int .i64 0),(.str [])]),p 3 (.mov (.k (.int .i64 0)))]) (.seq (.reg
 [p 11 (.mov 0),w 12 (.call (.k (.fn 97 [] [])) [11,(.k (.str [35]))]),p 10 (.mov 12),p 13 (.extr 0 10),p 14 (.extr 1 10),p 15 (.extr 2 10),p 4 (.mov 13),p 5 (.mov 14),p 6 (.mov
 15)]) (.seq (.keep [0,2,4,5,6]) (.seq (.reg [p 17 (.mov 4),w 18 (.call (.k (.fn 95 [] [])) [17,(.k (.int .i64 10))]),p 16 (.mov 18),p 19 (.extr 0 16),p 20 (.extr 1 16),p 7
 (.mov 19),p 8 (.mov 20)]) (.seq (.seq (.reg [p 21 (.mov 6),p 22 (.un .not 21),p 23 (.mov 22),pg 24 23 false (.mov 8),pg 25 23 false (.un .not 24),p 26 (.pick 23 (.k (.bool true))
 25),p 27 (.mov 26),pg 28 27 false (.mov 4),pg 29 27 false (.lenOf true 28),pg 30 27 false (.bin .gtr 29 (.k (.int .i64 2))),p 31 (.pick 27 (.k (.bool true)) 30),p 32 (.mov 31),
 pg 33 32 false (.mov 7),pg 34 32 false (.bin .lss 33 (.k (.int .i64 2))),p 35 (.pick 32 (.k (.bool true)) 34),p 36 (.mov 35),pg 37 36 false (.mov 7),pg 38 36 false (.bin .gtr 37
 (.k (.int .i64 36))),p 39 (.pick 36 (.k (.bool true)) 38)]) (.seq (.keep [0,2,5,7,39]) (.cond 39 (.seq (.reg [p 40 (.build [(.int .i64 0),(.int .i64 0),(.str [])] []),w0 (.store
 3 2 40),p 3 (.mov (.k (.int .i64 5)))]) .ret) .skip))) (.seq (.keep [0,2,5,7]) (.seq (.reg [p 42 (.mov 5),p 43 (.mov 7),w 44 (.call (.k (.fn 95 [] [])) [42,43]),p 41 (.mov 44),
 p 45 (.extr 0 41),p 46 (.extr 1 41),p 9 (.mov 45),p 8 (.mov 46)]) (.seq (.keep [0,2,8,9]) (.seq (.seq (.reg [p 47 (.mov 8),p 48 (.un .not 47)]) (.cond 48 (.seq (.reg [p 49 (.build
 [(.int .i64 0),(.int .i64 0),(.str [])] []),w0 (.store 3 2 49),p 3 (.mov (.k (.int .i64 5)))]) .ret) .skip)) (.seq (.reg [p 50 (.mov 0),p 51 (.mov 9),w 52 (.call (.k (.fn 96 []
 [])) [50,51]),p 53 (.extr 0 52),p 54 (.extr 1 52),w0 (.store 3 2 53),p 3 (.mov 54)]) .ret))))))))))⟩
def lex_numeral_decimal:MFun:=⟨1,[.cell 2 (some 3),.t 3],(.seq (.reg [n 2 (.alloc 134 true [(.int .i64 0),(.int .i64 0),(.str [])]),p 3 (.mov (.k (.int .i64 0)))]) (.seq (.seq
 (.reg [p 6 (.mov 0),w 7 (.call (.k (.fn 98 [] [])) [6,(.k (.str [46,101,69]))]),p 8 (.un .not 7),p 9 (.mov 8),pg 10 9 false (.mov 0),wg 11 9 false (.call (.k (.fn 99 [] []))
 [10]),pg 12 9 false (.un .not 11),p 13 (.pick 9 (.k (.bool true)) 12)]) (.seq (.keep [0,2,13]) (.cond 13 (.seq (.reg [p 14 (.build [(.int .i64 0),(.int .i64 0),(.str [])] []),
 w0 (.store 3 2 14),p 3 (.mov (.k (.int .i64 5)))]) .ret) .skip))) (.seq (.keep [0,2]) (.seq (.reg [p 16 (.mov 0),w 17 (.call (.k (.fn 100 [] [])) [16]),p 15 (.mov 17),p 18 (.extr
 0 15),p 19 (.extr 1 15),p 4 (.mov 18),p 5 (.mov 19)]) (.seq (.seq (.reg [p 20 (.mov 5),p 21 (.bin .neq 20 (.k (.int .i64 0)))]) (.cond 21 (.seq (.reg [p 22 (.build [(.int .i64 0),
 (.int .i64 0),(.str [])] []),w0 (.store 3 2 22),p 3 (.mov (.k (.int .i64 26)))]) .ret) .skip)) (.seq (.reg [p 23 (.mov 4),p 24 (.build [(.int .i64 0),(.int .i64 0),(.str [])]
 [(0,1,(.k (.int .i64 2))),(1,1,23)]),w0 (.store 3 2 24),p 3 (.mov (.k (.int .i64 0)))]) .ret))))))⟩
def chaseref01_Read_l0:MCode:=(.seq (.keep [0,6,7,8,9,10]) (.seq (.seq (.reg [p 35 (.mov 6),p 36 (.mov 0),p 37 (.lenOf true 36),p 38 (.bin .lss 35 37),p 39 (.mov 38),pg
 40 39 true (.mov 0),pg 41 39 true (.mov 6),pg 42 39 true (.idxS 40 41),wg 43 39 true (.call (.k (.fn 102 [] [])) [42]),pg 44 39 true (.mov 43),pg 45 44 false (.mov 0),pg 46 44
 false (.mov 6),pg 47 44 false (.idxS 45 46),pg 48 44 false (.bin .eql 47 (.k (.int .u8 46))),pg 49 44 false (.mov 48),pg 50 49 true (.mov 10),pg 51 49 true (.un .not 50),pg 52
 44 false (.pick 49 51 (.k (.bool false))),pg 53 39 true (.pick 44 (.k (.bool true)) 52),p 54 (.pick 39 53 (.k (.bool false)))]) (.cond 54 .skip (.exit 0))) (.seq (.keep [0,6,7,
 8,9,10]) (.block 1 (.seq (.seq (.reg [p 55 (.mov 0),p 56 (.mov 6),p 57 (.idxS 55 56),p 58 (.bin .eql 57 (.k (.int .u8 46)))]) (.cond 58 (.reg [p 10 (.mov (.k (.bool true)))]) (.seq
 (.reg [p 59 (.mov 8),p 60 (.mov 0),p 61 (.mov 6),p 62 (.idxS 60 61),p 63 (.bin .sub 62 (.k (.int .u8 48))),p 64 (.conv .i64 63),n 65 (.buildSl 3 1 [(.int .i64 0)] [(0,1,64)]),
 w 66 (.append 3 1 8 [(.int .i64 0)] 59 65),p 8 (.mov 66)]) (.seq (.keep [0,6,7,8,9,10]) (.seq (.reg [p 67 (.mov 10)]) (.cond 67 (.reg [p 68 (.mov 9),p 69 (.bin .sub 68 (.k (.int
 .i64 1))),p 9 (.mov 69)]) .skip)))))) (.seq (.keep [0,6,7,8,9,10]) (.reg [p 70 (.mov 6),p 71 (.bin .add 70 (.k (.int .i64 1))),p 6 (.mov 71)])))))))
def chaseref01_Read_l1:MCode:=(.seq (.keep [0,6,7,8,9,11,12]) (.seq (.seq (.reg [p 128 (.mov 6),p 129 (.mov 0),p 130 (.lenOf true 129),p 131 (.bin .lss 128 130)]) (.cond
 131 .skip (.exit 2))) (.block 3 (.seq (.seq (.reg [p 132 (.mov 0),p 133 (.mov 6),p 134 (.idxS 132 133),w 135 (.call (.k (.fn 102 [] [])) [134]),p 136 (.un .not 135)]) (.cond 136
 (.seq (.reg [p 2 (.mov (.k (.int .i64 0))),p 3 (.mov (.k .nilslice)),p 4 (.mov (.k (.int .i64 0))),p 5 (.mov (.k (.bool false)))]) .ret) .skip)) (.seq (.keep [0,6,7,8,9,11,
 12]) (.seq (.reg [p 137 (.mov 12),p 138 (.bin .mul (.k (.int .i64 10)) 137),p 139 (.mov 0),p 140 (.mov 6),p 141 (.idxS 139 140),p 142 (.bin .sub 141 (.k (.int .u8 48))),p 143
 (.conv .i64 142),p 144 (.bin .add 138 143),p 12 (.mov 144)]) (.seq (.keep [0,6,7,8,9,11,12]) (.reg [p 145 (.mov 6),p 146 (.bin .add 145 (.k (.int .i64 1))),p 6 (.mov 146)]))))))))
def chaseref01_Read:MFun:=⟨1,[.t 2,.t 3,.t 4,.t 5],(.seq (.reg [p 2 (.mov (.k (.int .i64 0))),p 3 (.mov (.k .nilslice)),p 4 (.mov (.k (.int .i64 0))),p 5 (.mov (.k (.bool
 false)))]) (.seq (.reg [p 6 (.mov (.k (.int .i64 0))),p 7 (.mov (.k (.int .i64 1)))]) (.seq (.seq (.reg [p 13 (.mov 6),p 14 (.mov 0),p 15 (.lenOf true 14),p 16 (.bin .lss 13 15),
 p 17 (.mov 16),pg 18 17 true (.mov 0),pg 19 17 true (.mov 6),pg 20 17 true (.idxS 18 19),pg 21 17 true (.bin .eql 20 (.k (.int .u8 43))),pg 22 17 true (.mov 21),pg 23 22 false
 (.mov 0),pg 24 22 false (.mov 6),pg 25 22 false (.idxS 23 24),pg 26 22 false (.bin .eql 25 (.k (.int .u8 45))),pg 27 17 true (.pick 22 (.k (.bool true)) 26),p 28 (.pick 17 27 (.k
 (.bool false)))]) (.seq (.keep [0,6,7,28]) (.cond 28 (.seq (.seq (.reg [p 29 (.mov 0),p 30 (.mov 6),p 31 (.idxS 29 30),p 32 (.bin .eql 31 (.k (.int .u8 45)))]) (.cond 32 (.reg
 [p 7 (.mov (.k (.int .i64 (-1))))]) .skip)) (.reg [p 33 (.mov 6),p 34 (.bin .add 33 (.k (.int .i64 1))),p 6 (.mov 34)])) .skip))) (.seq (.keep [0,6,7]) (.seq (.reg [p 8 (.mov (.k
 .nilslice))]) (.seq (.reg [p 9 (.mov (.k (.int .i64 0))),p 10 (.mov (.k (.bool false)))]) (.seq (.block 0 (.loop chaseref01_Read_l0)) (.seq (.keep [0,6,7,8,9]) (.seq (.seq (.reg
 [p 72 (.mov 8),p 73 (.lenOf false 72),p 74 (.bin .eql 73 (.k (.int .i64 0)))]) (.cond 74 (.seq (.reg [p 2 (.mov (.k (.int .i64 0))),p 3 (.mov (.k .nilslice)),p 4 (.mov (.k (.int
 .i64 0))),p 5 (.mov (.k (.bool false)))]) .ret) .skip)) (.seq (.seq (.reg [p 75 (.mov 6),p 76 (.mov 0),p 77 (.lenOf true 76),p 78 (.bin .eql 75 77)]) (.cond 78 (.seq (.reg [p 79
 (.mov 7),p 80 (.mov 8),p 81 (.mov 9),p 2 (.mov 79),p 3 (.mov 80),p 4 (.mov 81),p 5 (.mov (.k (.bool true)))]) .ret) .skip)) (.seq (.keep [0,6,7,8,9]) (.seq (.seq (.reg [p
 82 (.mov 0),p 83 (.mov 6),p 84 (.idxS 82 83),p 85 (.bin .neq 84 (.k (.int .u8 101))),p 86 (.mov 85),pg 87 86 true (.mov 0),pg 88 86 true (.mov 6),pg 89 86 true (.idxS 87 88),
 pg 90 86 true (.bin .neq 89 (.k (.int .u8 69))),p 91 (.pick 86 90 (.k (.bool false)))]) (.seq (.keep [0,6,7,8,9,91]) (.cond 91 (.seq (.reg [p 2 (.mov (.k (.int .i64 0))),p 3
 (.mov (.k .nilslice)),p 4 (.mov (.k (.int .i64 0))),p 5 (.mov (.k (.bool false)))]) .ret) .skip))) (.seq (.keep [0,6,7,8,9]) (.seq (.reg [p 92 (.mov 6),p 93 (.bin .add 92 (.k
 (.int .i64 1))),p 6 (.mov 93)]) (.seq (.reg [p 11 (.mov (.k (.bool false)))]) (.seq (.seq (.reg [p 94 (.mov 6),p 95 (.mov 0),p 96 (.lenOf true 95),p 97 (.bin .lss 94 96),p 98 (.mov
 97),pg 99 98 true (.mov 0),pg 100 98 true (.mov 6),pg 101 98 true (.idxS 99 100),pg 102 98 true (.bin .eql 101 (.k (.int .u8 43))),pg 103 98 true (.mov 102),pg 104 103 false (.mov
 0),pg 105 103 false (.mov 6),pg 106 103 false (.idxS 104 105),pg 107 103 false (.bin .eql 106 (.k (.int .u8 45))),pg 108 98 true (.pick 103 (.k (.bool true)) 107),p 109 (.pick
 98 108 (.k (.bool false)))]) (.seq (.keep [0,6,7,8,9,11,109]) (.cond 109 (.seq (.reg [p 110 (.mov 0),p 111 (.mov 6),p 112 (.idxS 110 111),p 113 (.bin .eql 112 (.k (.int .u8
 45))),p 11 (.mov 113)]) (.reg [p 114 (.mov 6),p 115 (.bin .add 114 (.k (.int .i64 1))),p 6 (.mov 115)])) .skip))) (.seq (.keep [0,6,7,8,9,11]) (.seq (.seq (.reg [p 116 (.mov
 0),p 117 (.lenOf true 116),p 118 (.mov 6),p 119 (.bin .sub 117 118),p 120 (.bin .lss 119 (.k (.int .i64 1))),p 121 (.mov 120),pg 122 121 false (.mov 0),pg 123 121 false (.lenOf
 true 122),pg 124 121 false (.mov 6),pg 125 121 false (.bin .sub 123 124),pg 126 121 false (.bin .gtr 125 (.k (.int .i64 3))),p 127 (.pick 121 (.k (.bool true)) 126)]) (.seq (.keep
 [0,6,7,8,9,11,127]) (.cond 127 (.seq (.reg [p 2 (.mov (.k (.int .i64 0))),p 3 (.mov (.k .nilslice)),p 4 (.mov (.k (.int .i64 0))),p 5 (.mov (.k (.bool false)))]) .ret) .skip)))
 (.seq (.keep [0,6,7,8,9,11]) (.seq (.reg [p 12 (.mov (.k (.int .i64 0)))]) (.seq (.block 2 (.loop chaseref01_Read_l1)) (.seq (.keep [7,8,9,11,12]) (.seq (.seq (.reg [p 147
 (.mov 11)]) (.cond 147 (.reg [p 148 (.mov 12),p 149 (.un .neg 148),p 12 (.mov 149)]) .skip)) (.seq (.reg [p 150 (.mov 7),p 151 (.mov 8),p 152 (.mov 9),p 153 (.mov 12),p 154 (.bin
 .add 152 153),p 2 (.mov 150),p 3 (.mov 151),p 4 (.mov 154),p 5 (.mov (.k (.bool true)))]) .ret))))))))))))))))))))))))⟩
def strings_Builder_WriteByte:MFun:=⟨2,[.t 4],(.seq (.reg [p 4 (.mov (.k .niliface))]) (.seq (.reg [p 5 (.mov 0),w 6 (.call (.k (.fn 109 [] [])) [5])]) (.seq (.reg [p 7 (.mov
 0),p 8 (.mov 0),p 9 (.nilck 8),p 10 (.faddr 1 9),r 11 (.load none 10),p 12 (.mov 1),n 13 (.buildSl 5 1 [(.int .u8 0)] [(0,1,12)]),w 14 (.append 5 1 1 [(.int .u8 0)] 11 13),
 p 15 (.nilck 7),p 16 (.faddr 1 15),w0 (.store 1 16 14)]) (.seq (.keep []) (.seq (.reg [p 4 (.mov (.k .niliface))]) .ret)))))⟩
def strings_Builder_String:MFun:=⟨1,[.t 2],(.seq (.reg [p 2 (.mov (.k (.str [])))]) (.seq (.regd [.op 0 (p 3 (.mov 0)),.op 1 (p 4 (.nilck 3)),.op 2 (p 5 (.faddr 1 4)),.op 3
 (r 6 (.load none 5)),.op 5 (p 8 (.mov 0)),.op 6 (p 9 (.nilck 8)),.op 7 (p 10 (.faddr 1 9)),.op 8 (r 11 (.load none 10)),.op 4 (p 7 (.sldata 6)),.op 9 (p 12 (.lenOf false 11)),
 .op 10 (w 13 (.ustr 5 7 12)),.op 11 (p 2 (.mov 13))]) .ret))⟩
def strings_HasPrefix:MFun:=⟨2,[.t 4],(.seq (.reg [p 4 (.mov (.k (.bool false)))]) (.seq (.reg [p 5 (.mov 0),p 6 (.mov 1),w 7 (.call (.k (.fn 123 [] [])) [5,6]),p 4 (.mov
 7)]) .ret))⟩
def lex_count_l0:MCode:=(.block 1 (.seq (.seq (.reg [p 12 (.mov 7),p 13 (.bin .lss 12 (.k (.int .i64 0)))]) (.cond 13 (.seq (.reg [w0 (.store 1 4 (.k (.int .i64 0))),w0 (.store
 1 5 (.k (.bool false)))]) .ret) .skip)) (.reg [r 14 (.load none 6),r 15 (.load none 3),p 16 (.bin .mul 14 15),p 17 (.mov 7),p 18 (.bin .add 16 17),p 19 (.minmax false [18,(.k
 (.int .i64 1099511627776))]),w0 (.store 1 6 19)])))
def lex_count:MFun:=⟨2,[.cell 4 none,.cell 5 none],(.seq (.reg [n 3 (.box 3 true 1),n 4 (.alloc 3 true [(.int .i64 0)]),n 5 (.alloc 4 true [(.bool false)])]) (.seq (.reg [n
 6 (.alloc 3 true [(.int .i64 0)]),w0 (.store 1 6 (.k (.int .i64 0)))]) (.seq (.seq (.reg [p 8 (.mov 0),r 9 (.load none 3),w 10 (.call (.k (.fn 112 [] [])) [8,9])]) (.block 0 (.rangeFunc
 10 [11] (.reg [p 7 (.mov 11)]) lex_count_l0))) (.seq (.keep [0,4,5,6]) (.seq (.reg [r 20 (.load none 6),p 21 (.mov 0),p 22 (.bin .neq 21 (.k (.str []))),w0 (.store 1 4 20),w0
 (.store 1 5 22)]) .ret)))))⟩
def lex_numeral_answer:MFun:=⟨2,[.cell 4 (some 3),.t 5],(.seq (.reg [n 4 (.alloc 134 true [(.int .i64 0),(.int .i64 0),(.str [])]),p 5 (.mov (.k (.int .i64 0)))]) (.seq (.seq
 (.reg [p 6 (.mov 0),p 7 (.lenOf true 6),p 8 (.bin .gtr 7 (.k (.int .i64 40))),p 9 (.mov 8),pg 10 9 false (.mov 1),pg 11 9 false (.bin .lss 10 (.k (.int .i64 (-2147483648)))),p
 12 (.pick 9 (.k (.bool true)) 11),p 13 (.mov 12),pg 14 13 false (.mov 1),pg 15 13 false (.bin .gtr 14 (.k (.int .i64 2147483647))),p 16 (.pick 13 (.k (.bool true)) 15)]) (.seq (.keep
 [1,4,16]) (.cond 16 (.seq (.reg [p 17 (.build [(.int .i64 0),(.int .i64 0),(.str [])] []),w0 (.store 3 4 17),p 5 (.mov (.k (.int .i64 26)))]) .ret) .skip))) (.seq (.keep [1,4])
 (.seq (.reg [p 18 (.mov 1),p 19 (.build [(.int .i64 0),(.int .i64 0),(.str [])] [(0,1,(.k (.int .i64 1))),(1,1,18)]),w0 (.store 3 4 19),p 5 (.mov (.k (.int .i64 0)))]) .ret))))⟩
def strings_Cut:MFun:=⟨2,[.t 4,.t 5,.t 6],(.seq (.reg [p 4 (.mov (.k (.str []))),p 5 (.mov (.k (.str []))),p 6 (.mov (.k (.bool false)))]) (.seq (.reg [p 7 (.mov 0),p 8 (.mov
 1),w 9 (.call (.k (.fn 140 [] [])) [7,8]),p 10 (.extr 0 9),p 11 (.extr 1 9),p 12 (.extr 2 9),p 4 (.mov 10),p 5 (.mov 11),p 6 (.mov 12)]) .ret))⟩
def strings_ContainsAny:MFun:=⟨2,[.t 4],(.seq (.reg [p 4 (.mov (.k (.bool false)))]) (.seq (.reg [p 5 (.mov 0),p 6 (.mov 1),w 7 (.call (.k (.fn 141 [] [])) [5,6]),p 8 (.bin
 .geq 7 (.k (.int .i64 0))),p 4 (.mov 8)]) .ret))⟩
def lex_pattern_l0:MCode:=(.seq (.keep [0,3,4,10,11]) (.seq (.reg [p 12 (.bin .lss 11 10)]) (.seq (.cond 12 .skip (.exit 0)) (.seq (.block 1 (.seq (.reg [p 13 (.mov 11),p 5
 (.mov 13)]) (.seq (.seq (.reg [p 14 (.mov 0),p 15 (.mov 5),p 16 (.idxS 14 15),p 17 (.bin .eql 16 (.k (.int .u8 101))),p 18 (.mov 17),pg 19 18 false (.mov 0),pg 20 18 false (.mov
 5),pg 21 18 false (.idxS 19 20),pg 22 18 false (.bin .eql 21 (.k (.int .u8 69))),p 23 (.pick 18 (.k (.bool true)) 22)]) (.seq (.keep [0,3,4,5,10,11,23]) (.cond 23 (.reg [p
 4 (.mov (.k (.bool false)))]) .skip))) (.seq (.keep [0,3,4,5,10,11]) (.seq (.reg [p 24 (.mov 0),p 25 (.mov 5),p 26 (.idxS 24 25),p 27 (.bin .geq 26 (.k (.int .u8 48))),p 28
 (.mov 27),pg 29 28 true (.mov 0),pg 30 28 true (.mov 5),pg 31 28 true (.idxS 29 30),pg 32 28 true (.bin .leq 31 (.k (.int .u8 57))),p 33 (.pick 28 32 (.k (.bool false))),p 6 (.mov
 33)]) (.seq (.keep [0,3,4,5,6,10,11]) (.seq (.seq (.reg [p 34 (.mov 4),p 35 (.mov 34),pg 36 35 true (.mov 6),p 37 (.pick 35 36 (.k (.bool false))),p 38 (.mov 37),pg 39 38
 true (.mov 5),pg 40 38 true (.bin .gtr 39 (.k (.int .i64 0))),p 41 (.pick 38 40 (.k (.bool false))),p 42 (.mov 41),pg 43 42 true (.mov 0),pg 44 42 true (.mov 5),pg 45 42 true
 (.bin .sub 44 (.k (.int .i64 1))),pg 46 42 true (.idxS 43 45),pg 47 42 true (.bin .geq 46 (.k (.int .u8 48))),p 48 (.pick 42 47 (.k (.bool false))),p 49 (.mov 48),pg 50 49 true
 (.mov 0),pg 51 49 true (.mov 5),pg 52 49 true (.bin .sub 51 (.k (.int .i64 1))),pg 53 49 true (.idxS 50 52),pg 54 49 true (.bin .leq 53 (.k (.int .u8 57))),p 55 (.pick 49 54 (.k
 (.bool false)))]) (.cond 55 (.exit 1) .skip)) (.seq (.keep [0,3,4,5,10,11]) (.seq (.seq (.reg [p 56 (.mov 3),p 57 (.lenOf true 56),p 58 (.bin .gtr 57 (.k (.int .i64 40)))]) (.cond
 58 (.seq (.reg [p 2 (.mov (.k (.bool false)))]) .ret) .skip)) (.reg [p 59 (.mov 3),p 60 (.mov 0),p 61 (.mov 5),p 62 (.mov 5),p 63 (.bin .add 62 (.k (.int .i64 1))),p 64 (.subS
 60 (some 61) (some 63)),p 65 (.bin .add 59 64),p 3 (.mov 65)])))))))))) (.seq (.keep [0,3,4,10,11]) (.reg [p 66 (.bin .add 11 (.k (.int .i64 1))),p 11 (.mov 66)]))))))
def lex_pattern:MFun:=⟨1,[.t 2],(.seq (.reg [p 2 (.mov (.k (.bool false)))]) (.seq (.reg [p 3 (.mov (.k (.str []))),p 4 (.mov (.k (.bool true)))]) (.seq (.seq (.reg [p 9 (.mov
 0),p 10 (.lenOf true 9),p 11 (.mov (.k (.int .i64 0)))]) (.block 0 (.loop lex_pattern_l0))) (.seq (.keep [3]) (.seq (.reg [p 68 (.mov 3),w 69 (.call (.k (.fn 100 [] [])) [68]),p
 67 (.mov 69),p 70 (.extr 0 67),p 71 (.extr 1 67),p 7 (.mov 70),p 8 (.mov 71)]) (.seq (.reg [p 72 (.mov 8),p 73 (.bin .eql 72 (.k (.int .i64 0))),p 74 (.mov 73),pg 75 74 false
 (.mov 8),pg 76 74 false (.bin .eql 75 (.k (.int .i64 6))),p 77 (.pick 74 (.k (.bool true)) 76),p 2 (.mov 77)]) .ret))))))⟩
def real_Parse_l0:MCode:=(.seq (.keep [5,9,10,39]) (.seq (.reg [p 40 (.bin .lss 39 (.k (.int .i64 16)))]) (.seq (.cond 40 .skip (.exit 0)) (.seq (.block 1 (.reg [p 41 (.mov 9),
 p 42 (.bin .mul (.k (.int .i64 2)) 41),p 43 (.mov 10),w 44 (.call (.k (.fn 116 [] [])) [43]),p 45 (.bin .add 42 44),p 9 (.mov 45)])) (.reg [p 46 (.bin .add 39 (.k (.int .i64 1))),
 p 39 (.mov 46)])))))
def real_Parse_l1:MCode:=(.seq (.keep [5,9,11,12,50,51,52]) (.seq (.reg [p 53 (.bin .lss 52 51)]) (.seq (.cond 53 .skip (.exit 2)) (.seq (.block 3 (.seq (.reg [p 54 (.iaddrS
 1 50 52),r 55 (.load none 54),p 14 (.mov 55)]) (.reg [p 56 (.mov 12),p 57 (.mov 56),pg 58 57 false (.mov 14),pg 59 57 false (.bin .neq 58 (.k (.int .u8 0))),p 60 (.pick 57 (.k
 (.bool true)) 59),p 12 (.mov 60)]))) (.seq (.keep [5,9,11,12,50,51,52]) (.reg [p 61 (.bin .add 52 (.k (.int .i64 1))),p 52 (.mov 61)]))))))
def real_Parse:MFun:=⟨1,[.t 2,.t 3],(.seq (.reg [p 2 (.mov (.k (.int .i64 0))),p 3 (.mov (.k (.int .i64 0)))]) (.seq (.seq (.reg [p 15 (.mov 0),p 16 (.lenOf true 15),p 17
 (.bin .gtr 16 (.k (.int .i64 40)))]) (.cond 17 (.seq (.reg [p 2 (.mov (.k (.int .i64 0))),p 3 (.mov (.k (.int .i64 3)))]) .ret) .skip)) (.seq (.reg [p 18 (.mov 0),p 19 (.build [(.str
 []),(.int .i64 0)] [(0,1,18)]),p 20 (.build [(.str []),(.int .i64 0)] [(0,2,19)]),n 21 (.box 187 false 20),p 4 (.mov 21)]) (.seq (.reg [p 23 (.mov 4),w 24 (.call (.k (.fn
 113 [] [])) [23]),p 22 (.mov 24),p 25 (.extr 0 22),p 26 (.extr 1 22),p 27 (.extr 2 22),p 28 (.extr 3 22),p 5 (.mov 25),p 6 (.mov 26),p 7 (.mov 27),p 8 (.mov 28)]) (.seq (.keep
 [5,6,7,8]) (.seq (.seq (.reg [p 29 (.mov 8),p 30 (.un .not 29)]) (.cond 30 (.seq (.reg [p 2 (.mov (.k (.int .i64 0))),p 3 (.mov (.k (.int .i64 5)))]) .ret) .skip)) (.seq (.reg
 [p 31 (.mov 6),p 32 (.mov 7),w 33 (.call (.k (.fn 114 [] [])) [31,32]),p 34 (.mov 6),p 35 (.mov 7),w 36 (.call (.k (.fn 115 [] [])) [34,35]),p 9 (.mov 33),p 10 (.mov 36)])
 (.seq (.keep [5,9,10]) (.seq (.seq (.reg [p 37 (.mov 9),p 38 (.bin .gtr 37 (.k (.int .i64 2147483648)))]) (.cond 38 (.seq (.reg [p 2 (.mov (.k (.int .i64 0))),p 3 (.mov (.k (.int
 .i64 6)))]) .ret) .skip)) (.seq (.seq (.reg [p 39 (.mov (.k (.int .i64 0)))]) (.block 0 (.loop real_Parse_l0))) (.seq (.keep [5,9,10]) (.seq (.reg [p 47 (.mov 10),w 48 (.call (.k
 (.fn 116 [] [])) [47]),p 49 (.bin .eql 48 (.k (.int .i64 1))),p 11 (.mov 49)]) (.seq (.reg [p 12 (.mov (.k (.bool false)))]) (.seq (.seq (.reg [p 50 (.mov 10),p 51 (.lenOf false
 50),p 52 (.mov (.k (.int .i64 0)))]) (.block 2 (.loop real_Parse_l1))) (.seq (.keep [5,9,11,12]) (.seq (.seq (.reg [p 62 (.mov 11),p 63 (.mov 62),pg 64 63 true (.mov 5),pg 65
 63 true (.un .not 64),pg 66 63 true (.mov 65),pg 67 66 false (.mov 12),pg 68 63 true (.pick 66 (.k (.bool true)) 67),p 69 (.pick 63 68 (.k (.bool false)))]) (.seq (.keep [5,9,
 69]) (.cond 69 (.reg [p 70 (.mov 9),p 71 (.bin .add 70 (.k (.int .i64 1))),p 9 (.mov 71)]) .skip))) (.seq (.keep [5,9]) (.seq (.seq (.reg [p 72 (.mov 5)]) (.cond 72 (.reg [p 73 (.mov
 9),p 74 (.un .neg 73),p 9 (.mov 74)]) .skip)) (.seq (.seq (.reg [p 75 (.mov 9),w 76 (.call (.k (.fn 110 [] [])) [75]),p 77 (.un .not 76)]) (.cond 77 (.seq (.reg [p 2 (.mov (.k (.int
 .i64 0))),p 3 (.mov (.k (.int .i64 6)))]) .ret) .skip)) (.seq (.reg [p 78 (.mov 9),p 2 (.mov 78),p 3 (.mov (.k (.int .i64 0)))]) .ret))))))))))))))))))))⟩
def strings_Builder_copyCheck:MFun:=⟨1,[],(.seq (.reg [p 2 (.mov 0),p 3 (.nilck 2),p 4 (.faddr 0 3),r 5 (.load none 4),p 6 (.eqN false 0 5 (.k .nilptr))]) (.cond 6 (.reg [p
 7 (.mov 0),p 8 (.mov 0),r 9 (.toU 8),w 10 (.call (.k (.fn 118 [] [])) [9]),r 11 (.ofU 84 2 10),p 12 (.nilck 7),p 13 (.faddr 0 12),w0 (.store 1 13 11)]) (.seq (.reg [p 14 (.mov
 0),p 15 (.nilck 14),p 16 (.faddr 0 15),r 17 (.load none 16),p 18 (.mov 0),p 19 (.eqN true 0 17 18)]) (.cond 19 .stuck .skip))))⟩
def real_Is:MFun:=⟨1,[.t 2],(.seq (.reg [p 2 (.mov (.k (.bool false)))]) (.seq (.reg [p 3 (.mov 0),p 4 (.bin .geq 3 (.k (.int .i64 (-2147483648)))),p 5 (.mov 4),pg 6 5 true
 (.mov 0),pg 7 5 true (.bin .leq 6 (.k (.int .i64 2147483648))),p 8 (.pick 5 7 (.k (.bool false))),p 2 (.mov 8)]) .ret))⟩
def stringslite_HasPrefix:MFun:=⟨2,[.t 4],(.seq (.reg [p 4 (.mov (.k (.bool false)))]) (.seq (.reg [p 5 (.mov 0),p 6 (.lenOf true 5),p 7 (.mov 1),p 8 (.lenOf true 7),p 9 (.bin
 .geq 6 8),p 10 (.mov 9),pg 11 10 true (.mov 0),pg 12 10 true (.mov 1),pg 13 10 true (.lenOf true 12),pg 14 10 true (.subS 11 none (some 13)),pg 15 10 true (.mov 1),pg 16 10 true
 (.bin .eql 14 15),p 17 (.pick 10 16 (.k (.bool false))),p 4 (.mov 17)]) .ret))⟩
def lex_digits:MFun:=⟨2,[.t 4],(.seq (.reg [n 2 (.box 9 false 0),n 3 (.box 3 false 1),p 4 (.mov (.k .nilfn))]) (.seq (.reg [p 5 (.mkfn 119 [] [2,3]),p 4 (.mov 5)]) .ret))⟩
def stringslite_Cut:MFun:=⟨2,[.t 4,.t 5,.t 6],(.seq (.reg [p 4 (.mov (.k (.str []))),p 5 (.mov (.k (.str []))),p 6 (.mov (.k (.bool false)))]) (.seq (.seq (.reg [p 8 (.mov
 0),p 9 (.mov 1),w 10 (.call (.k (.fn 142 [] [])) [8,9]),p 7 (.mov 10)]) (.seq (.reg [p 11 (.mov 7),p 12 (.bin .geq 11 (.k (.int .i64 0)))]) (.cond 12 (.seq (.regd [.op 0 (p 13
 (.mov 0)),.op 1 (p 14 (.mov 7)),.op 2 (p 15 (.subS 13 none (some 14))),.op 3 (p 16 (.mov 0)),.op 4 (p 17 (.mov 7)),.op 5 (p 18 (.mov 1)),.op 6 (p 19 (.lenOf true 18)),.op 7 (p
 20 (.bin .add 17 19)),.op 8 (p 21 (.subS 16 (some 20) none)),.op 9 (p 4 (.mov 15)),.op 10 (p 5 (.mov 21)),.op 11 (p 6 (.mov (.k (.bool true))))]) .ret) .skip))) (.seq (.keep [0])
 (.seq (.reg [p 22 (.mov 0),p 4 (.mov 22),p 5 (.mov (.k (.str []))),p 6 (.mov (.k (.bool false)))]) .ret))))⟩
def strings_IndexAny_l0:MCode:=(.seq (.keep [0,6,8]) (.seq (.seq (.reg [p 33 (.mov 8),p 34 (.mov 0),p 35 (.lenOf true 34),p 36 (.bin .lss 33 35)]) (.cond 36 .skip (.exit 0)))
 (.seq (.block 1 (.seq (.reg [p 39 (.mov 0),p 40 (.mov 8),p 41 (.idxS 39 40),w 42 (.call (.k (.fn 146 [] [])) [6,41])]) (.cond 42 (.seq (.reg [p 43 (.mov 8),p 4 (.mov 43)]) .ret)
 .skip))) (.reg [p 37 (.mov 8),p 38 (.bin .add 37 (.k (.int .i64 1))),p 8 (.mov 38)]))))
def strings_IndexAny_l1:MCode:=(.seq (.keep [1,45]) (.seq (.reg [w 46 (.nextS 45),p 47 (.extr 0 46)]) (.seq (.cond 47 .skip (.exit 2)) (.block 3 (.seq (.reg [p 48 (.extr 1 46),
 p 49 (.extr 2 46),p 9 (.mov 48),p 10 (.mov 49)]) (.seq (.reg [p 50 (.mov 1),p 51 (.mov 10),w 52 (.call (.k (.fn 143 [] [])) [50,51]),p 53 (.bin .geq 52 (.k (.int .i64 0)))]) (.cond
 53 (.seq (.reg [p 54 (.mov 9),p 4 (.mov 54)]) .ret) .skip)))))))
def strings_IndexAny:MFun:=⟨2,[.t 4],(.seq (.reg [p 4 (.mov (.k (.int .i64 0)))]) (.seq (.seq (.reg [p 11 (.mov 1),p 12 (.bin .eql 11 (.k (.str [])))]) (.cond 12 (.seq (.reg
 [p 4 (.mov (.k (.int .i64 (-1))))]) .ret) .skip)) (.seq (.seq (.reg [p 13 (.mov 1),p 14 (.lenOf true 13),p 15 (.bin .eql 14 (.k (.int .i64 1)))]) (.cond 15 (.seq (.reg [p 16 (.mov
 1),p 17 (.idxS 16 (.k (.int .i64 0))),p 18 (.conv .i32 17),p 5 (.mov 18)]) (.seq (.seq (.reg [p 19 (.mov 5),p 20 (.bin .geq 19 (.k (.int .i32 128)))]) (.cond 20 (.reg [p 5 (.mov
 (.k (.int .i32 65533)))]) .skip)) (.seq (.reg [p 21 (.mov 0),p 22 (.mov 5),w 23 (.call (.k (.fn 143 [] [])) [21,22]),p 4 (.mov 23)]) .ret))) .skip)) (.seq (.keep [0,1]) (.seq (.seq
 (.reg [p 24 (.mov 0),p 25 (.lenOf true 24),w 26 (.call (.k (.fn 144 [] [])) [25])]) (.cond 26 (.seq (.reg [p 28 (.mov 1),w 29 (.call (.k (.fn 145 [] [])) [28]),p 27 (.mov 29),p
 30 (.extr 0 27),p 31 (.extr 1 27),n 6 (.alloc 197 false (List.replicate 256 (.bool false))),w0 (.store 256 6 30),p 7 (.mov 31)]) (.seq (.keep [0,1,6,7]) (.seq (.reg [p 32 (.mov
 7)]) (.cond 32 (.seq (.seq (.reg [p 8 (.mov (.k (.int .i64 0)))]) (.block 0 (.loop strings_IndexAny_l0))) (.seq (.keep []) (.seq (.reg [p 4 (.mov (.k (.int .i64 (-1))))]) .ret))) .skip))))
 .skip)) (.seq (.keep [0,1]) (.seq (.seq (.reg [p 44 (.mov 0),n 45 (.rangeS 44)]) (.block 2 (.loop strings_IndexAny_l1))) (.seq (.keep []) (.seq (.reg [p 4 (.mov (.k (.int .i64 (-1))))])
 .ret)))))))))⟩
def real_scanner_decimal_l0:MCode:=(.seq (.keep [0,2,3,4,8,9,70,71,72]) (.seq (.reg [p 73 (.bin .lss 72 71)]) (.seq (.cond 73 .skip (.exit 0)) (.seq (.block 1 (.seq (.reg
 [p 74 (.iaddrS 1 70 72),r 75 (.load none 74),p 12 (.mov 75)]) (.reg [p 76 (.mov 9),p 77 (.bin .mul (.k (.int .i64 10)) 76),p 78 (.mov 12),p 79 (.conv .i64 78),p 80 (.bin .add
 77 79),p 9 (.mov 80)]))) (.seq (.keep [0,2,3,4,8,9,70,71,72]) (.reg [p 81 (.bin .add 72 (.k (.int .i64 1))),p 72 (.mov 81)]))))))
def real_scanner_decimal:MFun:=⟨1,[.t 2,.t 3,.t 4,.t 5],(.seq (.reg [p 2 (.mov (.k (.bool false))),p 3 (.mov (.k .nilslice)),p 4 (.mov (.k (.int .i64 0))),p 5 (.mov (.k
 (.bool false)))]) (.seq (.reg [p 13 (.mov 0),p 14 (.mkfn 120 [13] []),p 15 (.mov 0),p 16 (.mkfn 121 [15] []),p 6 (.mov 14),p 7 (.mov 16)]) (.seq (.reg [p 17 (.mov 6),w 18 (.call
 17 [(.k (.str [43,45]))]),p 19 (.mov 18),pg 20 19 true (.mov 0),pg 21 19 true (.nilck 20),pg 22 19 true (.faddr 0 21),pg 23 19 true (.faddr 0 22),rg 24 19 true (.load none 23),
 pg 25 19 true (.idxS 24 (.k (.int .i64 0))),pg 26 19 true (.bin .eql 25 (.k (.int .u8 45))),p 27 (.pick 19 26 (.k (.bool false))),p 2 (.mov 27)]) (.seq (.keep [0,2,6,7]) (.seq
 (.reg [p 28 (.mov 7),w 29 (.call 28 []),p 3 (.mov 29)]) (.seq (.reg [p 30 (.mov 3),p 31 (.lenOf false 30),p 4 (.mov 31)]) (.seq (.seq (.reg [p 32 (.mov 6),w 33 (.call 32 [(.k (.str
 [46]))])]) (.cond 33 (.reg [p 34 (.mov 3),p 35 (.mov 7),w 36 (.call 35 []),w 37 (.append 5 1 1 [(.int .u8 0)] 34 36),p 3 (.mov 37)]) .skip)) (.seq (.seq (.reg [p 38 (.mov 3),p
 39 (.lenOf false 38),p 40 (.bin .eql 39 (.k (.int .i64 0)))]) (.cond 40 (.seq (.reg [p 2 (.mov (.k (.bool false))),p 3 (.mov (.k .nilslice)),p 4 (.mov (.k (.int .i64 0))),p 5 (.mov
 (.k (.bool false)))]) .ret) .skip)) (.seq (.seq (.reg [p 41 (.mov 6),w 42 (.call 41 [(.k (.str [101,69]))])]) (.cond 42 (.seq (.regd [.op 0 (p 43 (.mov 6)),.op 1 (w 44 (.call 43
 [(.k (.str [43,45]))])),.op 2 (p 45 (.mov 44)),.op 3 (pg 46 45 true (.mov 0)),.op 4 (pg 47 45 true (.nilck 46)),.op 5 (pg 48 45 true (.faddr 0 47)),.op 6 (pg 49 45 true (.faddr
 0 48)),.op 7 (rg 50 45 true (.load none 49)),.op 8 (pg 51 45 true (.mov 0)),.op 9 (pg 52 45 true (.nilck 51)),.op 10 (pg 53 45 true (.faddr 0 52)),.op 11 (pg 54 45 true (.faddr
 1 53)),.op 12 (rg 55 45 true (.load none 54)),.op 13 (pg 56 45 true (.bin .sub 55 (.k (.int .i64 1)))),.op 14 (pg 57 45 true (.idxS 50 56)),.op 15 (pg 58 45 true (.bin .eql 57 (.k
 (.int .u8 45)))),.op 16 (p 59 (.pick 45 58 (.k (.bool false)))),.op 17 (p 8 (.mov 59))]) (.seq (.keep [0,2,3,4,7,8]) (.seq (.reg [p 60 (.mov 7),w 61 (.call 60 []),p 9 (.mov
 (.k (.int .i64 0))),p 10 (.mov 61)]) (.seq (.seq (.reg [p 62 (.mov 10),p 63 (.lenOf false 62),p 64 (.bin .lss 63 (.k (.int .i64 1))),p 65 (.mov 64),pg 66 65 false (.mov 10),pg
 67 65 false (.lenOf false 66),pg 68 65 false (.bin .gtr 67 (.k (.int .i64 3))),p 69 (.pick 65 (.k (.bool true)) 68)]) (.seq (.keep [0,2,3,4,8,9,10,69]) (.cond 69 (.seq (.reg
 [p 2 (.mov (.k (.bool false))),p 3 (.mov (.k .nilslice)),p 4 (.mov (.k (.int .i64 0))),p 5 (.mov (.k (.bool false)))]) .ret) .skip))) (.seq (.keep [0,2,3,4,8,9,10]) (.seq (.seq
 (.reg [p 70 (.mov 10),p 71 (.lenOf false 70),p 72 (.mov (.k (.int .i64 0)))]) (.block 0 (.loop real_scanner_decimal_l0))) (.seq (.keep [0,2,3,4,8,9]) (.seq (.seq (.reg [p 82
 (.mov 8)]) (.cond 82 (.reg [p 83 (.mov 9),p 84 (.un .neg 83),p 9 (.mov 84)]) .skip)) (.reg [p 85 (.mov 4),p 86 (.mov 9),p 87 (.bin .add 85 86),p 4 (.mov 87)]))))))))) .skip)) (.seq
 (.keep [0,2,3,4]) (.seq (.regd [.op 3 (p 91 (.mov 0)),.op 4 (p 92 (.nilck 91)),.op 5 (p 93 (.faddr 0 92)),.op 6 (p 94 (.faddr 1 93)),.op 7 (r 95 (.load none 94)),.op 8 (p 96
 (.mov 0)),.op 9 (p 97 (.nilck 96)),.op 10 (p 98 (.faddr 0 97)),.op 11 (p 99 (.faddr 0 98)),.op 12 (r 100 (.load none 99)),.op 0 (p 88 (.mov 2)),.op 1 (p 89 (.mov 3)),.op 2 (p
 90 (.mov 4)),.op 13 (p 101 (.lenOf true 100)),.op 14 (p 102 (.bin .eql 95 101)),.op 15 (p 2 (.mov 88)),.op 16 (p 3 (.mov 89)),.op 17 (p 4 (.mov 90)),.op 18 (p 5 (.mov 102))])
 .ret)))))))))))⟩
def real_front_l0:MCode:=(.seq (.keep [0,1,5,6]) (.seq (.seq (.reg [p 8 (.mov 6),p 9 (.mov 1),p 10 (.bin .lss 8 9)]) (.cond 10 .skip (.exit 0))) (.seq (.block 1 (.seq (.reg
 [p 7 (.mov (.k (.int .i64 0)))]) (.seq (.seq (.reg [p 13 (.mov 6),p 14 (.mov 0),p 15 (.lenOf false 14),p 16 (.bin .lss 13 15)]) (.cond 16 (.reg [p 17 (.mov 0),p 18 (.mov 6),p 19
 (.iaddrS 1 17 18),r 20 (.load none 19),p 21 (.conv .i64 20),p 7 (.mov 21)]) .skip)) (.seq (.keep [0,1,5,6,7]) (.seq (.reg [p 22 (.mov 5),p 23 (.bin .mul (.k (.int .i64 10))
 22),p 24 (.mov 7),p 25 (.bin .add 23 24),p 5 (.mov 25)]) (.seq (.reg [p 26 (.mov 5),p 27 (.bin .gtr 26 (.k (.int .i64 2147483648)))]) (.cond 27 (.seq (.reg [p 28 (.mov 5),p 4 (.mov
 28)]) .ret) .skip))))))) (.seq (.keep [0,1,5,6]) (.reg [p 11 (.mov 6),p 12 (.bin .add 11 (.k (.int .i64 1))),p 6 (.mov 12)])))))
def real_front:MFun:=⟨2,[.t 4],(.seq (.reg [p 4 (.mov (.k (.int .i64 0)))]) (.seq (.reg [p 5 (.mov (.k (.int .i64 0)))]) (.seq (.seq (.reg [p 6 (.mov (.k (.int .i64 0)))]) (.block
 0 (.loop real_front_l0))) (.seq (.keep [5]) (.seq (.reg [p 29 (.mov 5),p 4 (.mov 29)]) .ret)))))⟩
def real_fraction_l0:MCode:=(.seq (.keep [0,1,5,6]) (.seq (.seq (.reg [p 9 (.mov 6),p 10 (.mov 0),p 11 (.lenOf false 10),p 12 (.bin .lss 9 11)]) (.cond 12 .skip (.exit 0)))
 (.seq (.block 1 (.block 2 (.seq (.reg [p 16 (.mov 6),p 17 (.bin .lss 16 (.k (.int .i64 0))),p 15 (.mov 17)]) (.cond 15 (.reg [p 18 (.mov 5),n 19 (.buildSl 5 1 [(.int .u8 0)] [(0,
 1,(.k (.int .u8 0)))]),w 20 (.append 5 1 1 [(.int .u8 0)] 18 19),p 5 (.mov 20)]) (.seq (.reg [p 22 (.mov 6),p 23 (.mov 1),p 24 (.bin .geq 22 23),p 21 (.mov 24)]) (.cond 21 (.reg
 [p 25 (.mov 5),p 26 (.mov 0),p 27 (.mov 6),p 28 (.iaddrS 1 26 27),r 29 (.load none 28),n 30 (.buildSl 5 1 [(.int .u8 0)] [(0,1,29)]),w 31 (.append 5 1 1 [(.int .u8 0)] 25 30),
 p 5 (.mov 31)]) .skip)))))) (.seq (.keep [0,1,5,6]) (.reg [p 13 (.mov 6),p 14 (.bin .add 13 (.k (.int .i64 1))),p 6 (.mov 14)])))))
def real_fraction:MFun:=⟨2,[.t 4],(.seq (.reg [p 4 (.mov (.k .nilslice))]) (.seq (.reg [p 5 (.mov (.k .nilslice))]) (.seq (.seq (.reg [p 7 (.mov 1),p 8 (.minmax false [7,(.k
 (.int .i64 0))]),p 6 (.mov 8)]) (.block 0 (.loop real_fraction_l0))) (.seq (.keep [5]) (.seq (.reg [p 32 (.mov 5),p 4 (.mov 32)]) .ret)))))⟩
def real_double_l0:MCode:=(.seq (.keep [0,3,4]) (.seq (.seq (.reg [p 9 (.mov 4),p 10 (.bin .geq 9 (.k (.int .i64 0)))]) (.cond 10 .skip (.exit 0))) (.seq (.block 1 (.seq (.reg
 [p 13 (.mov 0),p 14 (.mov 4),p 15 (.iaddrS 1 13 14),r 16 (.load none 15),p 17 (.bin .mul (.k (.int .u8 2)) 16),p 18 (.mov 3),p 19 (.bin .add 17 18),p 5 (.mov 19)]) (.seq (.keep
 [0,4,5]) (.reg [p 20 (.mov 0),p 21 (.mov 4),p 22 (.mov 5),p 23 (.bin .rem 22 (.k (.int .u8 10))),p 24 (.mov 5),p 25 (.bin .quo 24 (.k (.int .u8 10))),p 26 (.iaddrS 1 20 21),
 w0 (.store 1 26 23),p 3 (.mov 25)])))) (.seq (.keep [0,3,4]) (.reg [p 11 (.mov 4),p 12 (.bin .sub 11 (.k (.int .i64 1))),p 4 (.mov 12)])))))
def real_double:MFun:=⟨1,[.t 2],(.seq (.reg [p 2 (.mov (.k (.int .i64 0)))]) (.seq (.reg [p 3 (.mov (.k (.int .u8 0)))]) (.seq (.seq (.reg [p 6 (.mov 0),p 7 (.lenOf false 6),
 p 8 (.bin .sub 7 (.k (.int .i64 1))),p 4 (.mov 8)]) (.block 0 (.loop real_double_l0))) (.seq (.keep [3]) (.seq (.reg [p 27 (.mov 3),p 28 (.conv .i64 27),p 2 (.mov 28)]) .ret)))))⟩
def lex_digits_1_l0:MCode:=(.seq (.keep [0,1,2,7,8]) (.seq (.reg [p 9 (.bin .lss 8 7)]) (.seq (.cond 9 .skip (.exit 0)) (.seq (.block 1 (.seq (.reg [p 10 (.mov 8),p 4 (.mov
 10)]) (.seq (.reg [r 11 (.load none 1),p 12 (.mov 4),p 13 (.idxS 11 12),w 14 (.call (.k (.fn 122 [] [])) [13]),p 5 (.mov 14)]) (.seq (.seq (.reg [p 15 (.mov 5),r 16 (.load none
 2),p 17 (.bin .geq 15 16)]) (.cond 17 (.reg [p 5 (.mov (.k (.int .i64 (-1))))]) .skip)) (.seq (.reg [p 18 (.mov 0),p 19 (.mov 5),w 20 (.call 18 [19]),p 21 (.un .not 20)]) (.cond
 21 .ret .skip)))))) (.seq (.keep [0,1,2,7,8]) (.reg [p 22 (.bin .add 8 (.k (.int .i64 1))),p 8 (.mov 22)]))))))
def lex_digits_1:MFun:=⟨3,[],(.seq (.reg [r 6 (.load none 1),p 7 (.lenOf true 6),p 8 (.mov (.k (.int .i64 0)))]) (.block 0 (.loop lex_digits_1_l0)))⟩
def strings_IndexRune_l0:MCode:=(.seq (.keep [175]) (.seq (.reg [w 176 (.nextS 175),p 177 (.extr 0 176)]) (.seq (.cond 177 .skip (.exit 9)) (.block 10 (.seq (.reg [p 178 (.extr
 1 176),p 179 (.extr 2 176),p 5 (.mov 178),p 6 (.mov 179)]) (.seq (.reg [p 180 (.mov 6),p 181 (.bin .eql 180 (.k (.int .i32 65533)))]) (.cond 181 (.seq (.reg [p 182 (.mov 5),p 4
 (.mov 182)]) .ret) .skip)))))))
def strings_IndexRune_l1:MCode:=(.seq (.keep [0,7,8,9,12]) (.seq (.seq (.reg [p 48 (.mov 12),p 49 (.mov 7),p 50 (.lenOf true 49),p 51 (.bin .lss 48 50)]) (.cond 51 .skip
 (.exit 3))) (.seq (.block 4 (.seq (.regd [.op 0 (p 54 (.mov 0)),.op 1 (p 55 (.mov 9)),.op 2 (p 56 (.mov 12)),.op 3 (p 57 (.bin .sub 55 56)),.op 4 (p 58 (.idxS 54 57)),.op 5 (p
 59 (.mov 7)),.op 6 (p 60 (.mov 8)),.op 7 (p 61 (.mov 12)),.op 8 (p 62 (.bin .sub 60 61)),.op 9 (p 63 (.idxS 59 62)),.op 10 (p 64 (.bin .neq 58 63))]) (.cond 64 .stuck .skip)))
 (.seq (.keep [0,7,8,9,12]) (.reg [p 52 (.mov 12),p 53 (.bin .add 52 (.k (.int .i64 1))),p 12 (.mov 53)])))))
def strings_IndexRune_l2:MCode:=(.seq (.keep [0,7,8,9]) (.seq (.seq (.reg [p 23 (.mov 9),p 24 (.mov 0),p 25 (.lenOf true 24),p 26 (.bin .lss 23 25)]) (.cond 26 .skip (.exit
 1))) (.block 2 (.scope (.seq (.seq (.regd [.op 0 (p 27 (.mov 0)),.op 1 (p 28 (.mov 9)),.op 2 (p 29 (.idxS 27 28)),.op 3 (p 30 (.mov 7)),.op 4 (p 31 (.mov 8)),.op 5 (p 32 (.idxS
 30 31)),.op 6 (p 33 (.bin .neq 29 32))]) (.cond 33 (.seq (.regd [.op 0 (p 34 (.mov 0)),.op 1 (p 35 (.mov 9)),.op 2 (p 36 (.bin .add 35 (.k (.int .i64 1)))),.op 3 (p 37 (.subS 34
 (some 36) none)),.op 4 (p 38 (.mov 7)),.op 5 (p 39 (.mov 8)),.op 6 (p 40 (.idxS 38 39)),.op 7 (w 41 (.call (.k (.fn 84 [] [])) [37,40])),.op 8 (p 11 (.mov 41))]) (.seq (.keep
 [0,7,8,9,11]) (.seq (.seq (.reg [p 42 (.mov 11),p 43 (.bin .lss 42 (.k (.int .i64 0)))]) (.cond 43 (.seq (.reg [p 4 (.mov (.k (.int .i64 (-1))))]) .ret) .skip)) (.reg [p 44 (.mov
 9),p 45 (.mov 11),p 46 (.bin .add 45 (.k (.int .i64 1))),p 47 (.bin .add 44 46),p 9 (.mov 47)])))) .skip)) (.seq (.keep [0,7,8,9]) (.seq (.seq (.reg [p 12 (.mov (.k (.int .i64
 1)))]) (.block 3 (.loop strings_IndexRune_l1))) (.seq (.keep [8,9]) (.seq (.seq (.reg [p 65 (.mov 9),p 66 (.mov 8),p 67 (.bin .sub 65 66),p 4 (.mov 67)]) .ret) (.seq .skip (.seq
 (.reg [p 68 (.mov 10),p 69 (.bin .add 68 (.k (.int .i64 1))),p 10 (.mov 69)]) (.seq (.reg [p 70 (.mov 9),p 71 (.bin .add 70 (.k (.int .i64 1))),p 9 (.mov 71)]) (.seq (.reg [p 72
 (.mov (.k (.bool true))),pg 73 72 true (.mov 10),pg 74 72 true (.mov 9),wg 75 72 true (.call (.k (.fn 148 [] [])) [74]),pg 76 72 true (.bin .gtr 73 75),p 77 (.pick 72 76 (.k (.bool
 false))),p 78 (.mov 77),pg 79 78 true (.mov 9),pg 80 78 true (.mov 0),pg 81 78 true (.lenOf true 80),pg 82 78 true (.bin .lss 79 81),p 83 (.pick 78 82 (.k (.bool false))),p 84
 (.mov 83),pg 85 84 false (.mov (.k (.bool false))),pg 86 85 true (.mov 10),pg 87 85 true (.mov 9),pg 88 85 true (.bin .shr 87 (.k (.int .u64 4))),pg 89 85 true (.bin .add (.k (.int
 .i64 4)) 88),pg 90 85 true (.bin .geq 86 89),pg 91 84 false (.pick 85 90 (.k (.bool false))),pg 92 84 false (.mov 91),pg 93 92 true (.mov 9),pg 94 92 true (.mov 0),pg 95 92 true
 (.lenOf true 94),pg 96 92 true (.bin .lss 93 95),pg 97 84 false (.pick 92 96 (.k (.bool false))),p 98 (.pick 84 (.k (.bool true)) 97)]) (.cond 98 .stuck .skip))))))))))))))
def strings_IndexRune_l3:MCode:=(.seq (.keep [0,7,8,9,14,15,16]) (.seq (.seq (.reg [p 140 (.mov 16),p 141 (.mov 7),p 142 (.lenOf true 141),p 143 (.bin .lss 140 142)]) (.cond
 143 .skip (.exit 7))) (.seq (.block 8 (.seq (.regd [.op 0 (p 146 (.mov 0)),.op 1 (p 147 (.mov 9)),.op 2 (p 148 (.mov 16)),.op 3 (p 149 (.bin .sub 147 148)),.op 4 (p 150 (.idxS 146
 149)),.op 5 (p 151 (.mov 7)),.op 6 (p 152 (.mov 8)),.op 7 (p 153 (.mov 16)),.op 8 (p 154 (.bin .sub 152 153)),.op 9 (p 155 (.idxS 151 154)),.op 10 (p 156 (.bin .neq 150 155))])
 (.cond 156 (.exit 6) .skip))) (.seq (.keep [0,7,8,9,14,15,16]) (.reg [p 144 (.mov 16),p 145 (.bin .add 144 (.k (.int .i64 1))),p 16 (.mov 145)])))))
def strings_IndexRune_l4:MCode:=(.seq (.keep [0,7,8,9,14,15]) (.seq (.seq (.reg [p 121 (.mov 9),p 122 (.mov 0),p 123 (.lenOf true 122),p 124 (.bin .lss 121 123)]) (.cond
 124 .skip (.exit 5))) (.seq (.block 6 (.seq (.reg [p 127 (.mov 0),p 128 (.mov 9),p 129 (.idxS 127 128),p 130 (.mov 14),p 131 (.bin .eql 129 130),p 132 (.mov 131),pg 133 132 true
 (.mov 0),pg 134 132 true (.mov 9),pg 135 132 true (.bin .sub 134 (.k (.int .i64 1))),pg 136 132 true (.idxS 133 135),pg 137 132 true (.mov 15),pg 138 132 true (.bin .eql 136 137),
 p 139 (.pick 132 138 (.k (.bool false)))]) (.seq (.keep [0,7,8,9,14,15,139]) (.cond 139 (.seq (.seq (.reg [p 16 (.mov (.k (.int .i64 2)))]) (.block 7 (.loop strings_IndexRune_l3)))
 (.seq (.keep [8,9]) (.seq (.reg [p 157 (.mov 9),p 158 (.mov 8),p 159 (.bin .sub 157 158),p 4 (.mov 159)]) .ret))) .skip)))) (.seq (.keep [0,7,8,9,14,15]) (.reg [p 125 (.mov
 9),p 126 (.bin .add 125 (.k (.int .i64 1))),p 9 (.mov 126)])))))
def strings_IndexRune:MFun:=⟨2,[.t 4],(.seq (.reg [p 4 (.mov (.k (.int .i64 0)))]) (.block 0 (.seq (.reg [p 161 (.mov 1),p 162 (.bin .leq (.k (.int .i32 0)) 161),p 163 (.mov
 162),pg 164 163 true (.mov 1),pg 165 163 true (.bin .lss 164 (.k (.int .i32 128))),p 166 (.pick 163 165 (.k (.bool false))),p 160 (.mov 166)]) (.cond 160 (.seq (.reg [p 167 (.mov
 0),p 168 (.mov 1),p 169 (.conv .u8 168),w 170 (.call (.k (.fn 84 [] [])) [167,169]),p 4 (.mov 170)]) .ret) (.seq (.reg [p 172 (.mov 1),p 173 (.bin .eql 172 (.k (.int .i32 65533))),
 p 171 (.mov 173)]) (.cond 171 (.seq (.seq (.reg [p 174 (.mov 0),n 175 (.rangeS 174)]) (.block 9 (.loop strings_IndexRune_l0))) (.seq (.keep []) (.seq (.reg [p 4 (.mov (.k (.int .i64
 (-1))))]) .ret))) (.seq (.reg [p 184 (.mov 1),w 185 (.call (.k (.fn 147 [] [])) [184]),p 186 (.un .not 185),p 183 (.mov 186)]) (.cond 183 (.seq (.reg [p 4 (.mov (.k (.int .i64 (-1))))])
 .ret) (.scope (.seq (.reg [p 17 (.mov 1),p 18 (.r2s 17),p 7 (.mov 18)]) (.seq (.reg [p 19 (.mov 7),p 20 (.lenOf true 19),p 21 (.bin .sub 20 (.k (.int .i64 1))),p 8 (.mov 21)])
 (.seq (.reg [p 22 (.mov 8),p 9 (.mov 22)]) (.seq (.reg [p 10 (.mov (.k (.int .i64 0)))]) (.seq (.block 1 (.loop strings_IndexRune_l2)) (.seq (.keep []) (.seq (.seq (.reg [p 4 (.mov
 (.k (.int .i64 (-1))))]) .ret) (.seq .skip (.seq (.cond (.k (.bool true)) (.seq (.reg [p 99 (.mov 0),p 100 (.mov 9),p 101 (.mov 8),p 102 (.bin .sub 100 101),p 103 (.subS 99 (some
 102) none),p 104 (.mov 1),p 105 (.r2s 104),w 106 (.call (.k (.fn 149 [] [])) [103,105]),p 13 (.mov 106)]) (.seq (.keep [8,9,13]) (.seq (.reg [p 107 (.mov 13),p 108 (.bin .geq
 107 (.k (.int .i64 0)))]) (.cond 108 (.seq (.reg [p 109 (.mov 9),p 110 (.mov 13),p 111 (.bin .add 109 110),p 112 (.mov 8),p 113 (.bin .sub 111 112),p 4 (.mov 113)]) .ret) .skip))))
 (.scope (.seq (.reg [p 114 (.mov 7),p 115 (.mov 8),p 116 (.idxS 114 115),p 14 (.mov 116)]) (.seq (.reg [p 117 (.mov 7),p 118 (.mov 8),p 119 (.bin .sub 118 (.k (.int .i64 1))),
 p 120 (.idxS 117 119),p 15 (.mov 120)]) (.seq .skip (.block 5 (.loop strings_IndexRune_l4))))))) (.seq (.keep []) (.seq (.reg [p 4 (.mov (.k (.int .i64 (-1))))]) .ret))))))))))))))))))))⟩
def strings_shouldUseASCIISet:MFun:=⟨1,[.t 2],(.seq (.reg [p 2 (.mov (.k (.bool false)))]) (.seq (.reg [p 3 (.mov 0),p 4 (.bin .gtr 3 (.k (.int .i64 8))),p 2 (.mov 4)]) .ret))⟩
def strings_makeASCIISet_l0:MCode:=(.seq (.keep [0,2,4]) (.seq (.seq (.reg [p 6 (.mov 4),p 7 (.mov 0),p 8 (.lenOf true 7),p 9 (.bin .lss 6 8)]) (.cond 9 .skip (.exit 0))) (.seq
 (.block 1 (.seq (.reg [p 12 (.mov 0),p 13 (.mov 4),p 14 (.idxS 12 13),p 5 (.mov 14)]) (.seq (.seq (.reg [p 15 (.mov 5),p 16 (.bin .geq 15 (.k (.int .u8 128)))]) (.cond 16 (.seq
 (.reg [r 17 (.load (some 256) 2),w0 (.store 256 2 17),p 3 (.mov (.k (.bool false)))]) .ret) .skip)) (.reg [p 18 (.mov 5),p 19 (.iaddrA 256 1 2 18),w0 (.store 1 19 (.k (.bool true)))]))))
 (.seq (.keep [0,2,4]) (.reg [p 10 (.mov 4),p 11 (.bin .add 10 (.k (.int .i64 1))),p 4 (.mov 11)])))))
def strings_makeASCIISet:MFun:=⟨1,[.cell 2 (some 256),.t 3],(.seq (.reg [n 2 (.alloc 197 true (List.replicate 256 (.bool false))),p 3 (.mov (.k (.bool false)))]) (.seq (.seq
 (.reg [p 4 (.mov (.k (.int .i64 0)))]) (.block 0 (.loop strings_makeASCIISet_l0))) (.seq (.keep [2]) (.seq (.reg [r 20 (.load (some 256) 2),w0 (.store 256 2 20),p 3 (.mov (.k (.bool
 true)))]) .ret))))⟩
def strings_asciiSet_contains:MFun:=⟨2,[.t 4],(.seq (.reg [p 4 (.mov (.k (.bool false)))]) (.seq (.reg [p 5 (.mov 0),p 6 (.mov 1),p 7 (.nilck 5),p 8 (.iaddrA 256 1 7 6),r
 9 (.load none 8),p 4 (.mov 9)]) .ret))⟩
def real_scanner_one_l0:MCode:=(.seq (.keep [0,1,19,20]) (.seq (.reg [p 21 (.bin .lss 20 19)]) (.seq (.cond 21 .skip (.exit 0)) (.seq (.block 1 (.seq (.reg [p 22 (.mov 20),p
 5 (.mov 22)]) (.seq (.regd [.op 0 (p 23 (.mov 0)),.op 1 (p 24 (.nilck 23)),.op 2 (p 25 (.faddr 0 24)),.op 3 (p 26 (.faddr 0 25)),.op 4 (r 27 (.load none 26)),.op 5 (p 28 (.mov
 0)),.op 6 (p 29 (.nilck 28)),.op 7 (p 30 (.faddr 0 29)),.op 8 (p 31 (.faddr 1 30)),.op 9 (r 32 (.load none 31)),.op 10 (p 33 (.idxS 27 32)),.op 11 (p 34 (.mov 1)),.op 12 (p 35
 (.mov 5)),.op 13 (p 36 (.idxS 34 35)),.op 14 (p 37 (.bin .eql 33 36))]) (.seq (.keep [0,1,19,20,37]) (.cond 37 (.seq (.reg [p 38 (.mov 0),p 39 (.nilck 38),p 40 (.faddr 0 39),
 p 41 (.faddr 1 40),r 42 (.load none 41),p 43 (.bin .add 42 (.k (.int .i64 1))),p 44 (.nilck 38),p 45 (.faddr 0 44),p 46 (.faddr 1 45),w0 (.store 1 46 43)]) (.seq (.keep []) (.seq
 (.reg [p 4 (.mov (.k (.bool true)))]) .ret))) .skip))))) (.seq (.keep [0,1,19,20]) (.reg [p 47 (.bin .add 20 (.k (.int .i64 1))),p 20 (.mov 47)]))))))
def real_scanner_one:MFun:=⟨2,[.t 4],(.seq (.reg [p 4 (.mov (.k (.bool false)))]) (.seq (.seq (.regd [.op 0 (p 6 (.mov 0)),.op 1 (p 7 (.nilck 6)),.op 2 (p 8 (.faddr 0 7)),.op
 3 (p 9 (.faddr 1 8)),.op 4 (r 10 (.load none 9)),.op 5 (p 11 (.mov 0)),.op 6 (p 12 (.nilck 11)),.op 7 (p 13 (.faddr 0 12)),.op 8 (p 14 (.faddr 0 13)),.op 9 (r 15 (.load none 14)),
 .op 10 (p 16 (.lenOf true 15)),.op 11 (p 17 (.bin .eql 10 16))]) (.seq (.keep [0,1,17]) (.cond 17 (.seq (.reg [p 4 (.mov (.k (.bool false)))]) .ret) .skip))) (.seq (.keep [0,1])
 (.seq (.seq (.reg [p 18 (.mov 1),p 19 (.lenOf true 18),p 20 (.mov (.k (.int .i64 0)))]) (.block 0 (.loop real_scanner_one_l0))) (.seq (.keep []) (.seq (.reg [p 4 (.mov (.k (.bool
 false)))]) .ret))))))⟩
def real_scanner_digits_l0:MCode:=(.seq (.keep [0,3]) (.seq (.seq (.reg [p 4 (.mov 0),w 5 (.call (.k (.fn 120 [] [])) [4,(.k (.str [48,49,50,51,52,53,54,55,56,57]))])])
 (.cond 5 .skip (.exit 0))) (.block 1 (.regd [.op 1 (p 7 (.mov 0)),.op 2 (p 8 (.nilck 7)),.op 3 (p 9 (.faddr 0 8)),.op 4 (p 10 (.faddr 0 9)),.op 5 (r 11 (.load none 10)),.op 6 (p
 12 (.mov 0)),.op 7 (p 13 (.nilck 12)),.op 8 (p 14 (.faddr 0 13)),.op 9 (p 15 (.faddr 1 14)),.op 10 (r 16 (.load none 15)),.op 0 (p 6 (.mov 3)),.op 11 (p 17 (.bin .sub 16 (.k (.int
 .i64 1)))),.op 12 (p 18 (.idxS 11 17)),.op 13 (p 19 (.bin .sub 18 (.k (.int .u8 48)))),.op 14 (n 20 (.buildSl 5 1 [(.int .u8 0)] [(0,1,19)])),.op 15 (w 21 (.append 5 1 1 [(.int
 .u8 0)] 6 20)),.op 16 (p 3 (.mov 21))]))))
def real_scanner_digits:MFun:=⟨1,[.t 2],(.seq (.reg [p 2 (.mov (.k .nilslice))]) (.seq (.reg [p 3 (.mov (.k .nilslice))]) (.seq (.block 0 (.loop real_scanner_digits_l0)) (.seq
 (.keep [3]) (.seq (.reg [p 22 (.mov 3),p 2 (.mov 22)]) .ret)))))⟩
def lex_value:MFun:=⟨1,[.t 2],(.seq (.reg [p 2 (.mov (.k (.int .i64 0)))]) (.seq (.block 0 (.seq (.reg [p 4 (.mov 0),p 5 (.bin .geq 4 (.k (.int .u8 48))),p 6 (.mov 5),pg 7
 6 true (.mov 0),pg 8 6 true (.bin .leq 7 (.k (.int .u8 57))),p 9 (.pick 6 8 (.k (.bool false))),p 3 (.mov 9)]) (.cond 3 (.seq (.reg [p 10 (.mov 0),p 11 (.bin .sub 10 (.k (.int .u8
 48))),p 12 (.conv .i64 11),p 2 (.mov 12)]) .ret) (.seq (.reg [p 14 (.mov 0),p 15 (.bin .geq 14 (.k (.int .u8 97))),p 16 (.mov 15),pg 17 16 true (.mov 0),pg 18 16 true (.bin .leq
 17 (.k (.int .u8 122))),p 19 (.pick 16 18 (.k (.bool false))),p 13 (.mov 19)]) (.cond 13 (.seq (.reg [p 20 (.mov 0),p 21 (.bin .sub 20 (.k (.int .u8 97))),p 22 (.conv .i64 21),
 p 23 (.bin .add 22 (.k (.int .i64 10))),p 2 (.mov 23)]) .ret) (.seq (.reg [p 25 (.mov 0),p 26 (.bin .geq 25 (.k (.int .u8 65))),p 27 (.mov 26),pg 28 27 true (.mov 0),pg 29 27 true
 (.bin .leq 28 (.k (.int .u8 90))),p 30 (.pick 27 29 (.k (.bool false))),p 24 (.mov 30)]) (.cond 24 (.seq (.reg [p 31 (.mov 0),p 32 (.bin .sub 31 (.k (.int .u8 65))),p 33 (.conv
 .i64 32),p 34 (.bin .add 33 (.k (.int .i64 10))),p 2 (.mov 34)]) .ret) .skip))))))) (.seq (.keep []) (.seq (.reg [p 2 (.mov (.k (.int .i64 99)))]) .ret))))⟩
def unicode_utf8_ValidRune:MFun:=⟨1,[.t 2],(.seq (.reg [p 2 (.mov (.k (.bool false)))]) (.seq (.block 0 (.seq (.reg [p 4 (.mov 0),p 5 (.bin .leq (.k (.int .i32 0)) 4),p 6 (.mov
 5),pg 7 6 true (.mov 0),pg 8 6 true (.bin .lss 7 (.k (.int .i32 55296))),p 9 (.pick 6 8 (.k (.bool false))),p 3 (.mov 9)]) (.cond 3 (.seq (.reg [p 2 (.mov (.k (.bool true)))]) .ret)
 (.seq (.reg [p 11 (.mov 0),p 12 (.bin .lss (.k (.int .i32 57343)) 11),p 13 (.mov 12),pg 14 13 true (.mov 0),pg 15 13 true (.bin .leq 14 (.k (.int .i32 1114111))),p 16 (.pick 13
 15 (.k (.bool false))),p 10 (.mov 16)]) (.cond 10 (.seq (.reg [p 2 (.mov (.k (.bool true)))]) .ret) .skip))))) (.seq (.keep []) (.seq (.reg [p 2 (.mov (.k (.bool false)))]) .ret))))⟩
def bytealg_Cutover:MFun:=⟨1,[.t 2],(.seq (.reg [p 2 (.mov (.k (.int .i64 0)))]) (.seq (.reg [p 3 (.mov 0),p 4 (.bin .add 3 (.k (.int .i64 16))),p 5 (.bin .quo 4 (.k (.int .i64
 8))),p 2 (.mov 5)]) .ret))⟩
structure H_strings_IndexByte (T:Tab):Prop where
 en:T.en 84=some E_strings_IndexByte
structure H_abi_NoEscape (T:Tab):Prop where
 en:T.en 118=some E_abi_NoEscape
structure H_stringslite_Index (T:Tab):Prop where
 en:T.en 142=some E_stringslite_Index
structure H_strings_Builder_String (T:Tab):Prop where
 e:T.en 92=none
 f:T.fn 92=some strings_Builder_String
structure H_lex_numeral_answer (T:Tab):Prop where
 e:T.en 96=none
 f:T.fn 96=some lex_numeral_answer
structure H_strings_Builder_copyCheck (T:Tab):Prop where
 e:T.en 109=none
 f:T.fn 109=some strings_Builder_copyCheck
 abi_NoEscape:H_abi_NoEscape T
structure H_real_Is (T:Tab):Prop where
 e:T.en 110=none
 f:T.fn 110=some real_Is
structure H_stringslite_HasPrefix (T:Tab):Prop where
 e:T.en 123=none
 f:T.fn 123=some stringslite_HasPrefix
structure H_stringslite_Cut (T:Tab):Prop where
 e:T.en 140=none
 f:T.fn 140=some stringslite_Cut
 stringslite_Index:H_stringslite_Index T
structure H_real_front (T:Tab):Prop where
 e:T.en 114=none
 f:T.fn 114=some real_front
structure H_real_fraction (T:Tab):Prop where
 e:T.en 115=none
 f:T.fn 115=some real_fraction
structure H_real_double (T:Tab):Prop where
 e:T.en 116=none
 f:T.fn 116=some real_double
structure H_strings_shouldUseASCIISet (T:Tab):Prop where
 e:T.en 144=none
 f:T.fn 144=some strings_shouldUseASCIISet
structure H_strings_makeASCIISet (T:Tab):Prop where
 e:T.en 145=none
 f:T.fn 145=some strings_makeASCIISet
structure H_strings_asciiSet_contains (T:Tab):Prop where
 e:T.en 146=none
 f:T.fn 146=some strings_asciiSet_contains
structure H_real_scanner_one (T:Tab):Prop where
 e:T.en 120=none
 f:T.fn 120=some real_scanner_one
structure H_real_scanner_digits (T:Tab):Prop where
 e:T.en 121=none
 f:T.fn 121=some real_scanner_digits
 real_scanner_one:H_real_scanner_one T
structure H_lex_value (T:Tab):Prop where
 e:T.en 122=none
 f:T.fn 122=some lex_value
structure H_unicode_utf8_ValidRune (T:Tab):Prop where
 e:T.en 147=none
 f:T.fn 147=some unicode_utf8_ValidRune
structure H_bytealg_Cutover (T:Tab):Prop where
 e:T.en 148=none
 f:T.fn 148=some bytealg_Cutover
structure H_strings_Builder_WriteByte (T:Tab):Prop where
 e:T.en 91=none
 f:T.fn 91=some strings_Builder_WriteByte
 strings_Builder_copyCheck:H_strings_Builder_copyCheck T
structure H_strings_HasPrefix (T:Tab):Prop where
 e:T.en 94=none
 f:T.fn 94=some strings_HasPrefix
 stringslite_HasPrefix:H_stringslite_HasPrefix T
structure H_strings_Cut (T:Tab):Prop where
 e:T.en 97=none
 f:T.fn 97=some strings_Cut
 stringslite_Cut:H_stringslite_Cut T
structure H_real_scanner_decimal (T:Tab):Prop where
 e:T.en 113=none
 f:T.fn 113=some real_scanner_decimal
 real_scanner_one:H_real_scanner_one T
 real_scanner_digits:H_real_scanner_digits T
structure H_lex_digits_1 (T:Tab):Prop where
 e:T.en 119=none
 f:T.fn 119=some lex_digits_1
 lex_value:H_lex_value T
structure H_strings_IndexRune (T:Tab):Prop where
 e:T.en 143=none
 f:T.fn 143=some strings_IndexRune
 strings_IndexByte:H_strings_IndexByte T
 unicode_utf8_ValidRune:H_unicode_utf8_ValidRune T
 bytealg_Cutover:H_bytealg_Cutover T
structure H_real_Parse (T:Tab):Prop where
 e:T.en 100=none
 f:T.fn 100=some real_Parse
 real_scanner_decimal:H_real_scanner_decimal T
 real_front:H_real_front T
 real_fraction:H_real_fraction T
 real_double:H_real_double T
 real_Is:H_real_Is T
structure H_lex_digits (T:Tab):Prop where
 e:T.en 112=none
 f:T.fn 112=some lex_digits
 lex_digits_1:H_lex_digits_1 T
structure H_strings_IndexAny (T:Tab):Prop where
 e:T.en 141=none
 f:T.fn 141=some strings_IndexAny
 strings_IndexRune:H_strings_IndexRune T
 strings_shouldUseASCIISet:H_strings_shouldUseASCIISet T
 strings_makeASCIISet:H_strings_makeASCIISet T
 strings_asciiSet_contains:H_strings_asciiSet_contains T
structure H_lex_count (T:Tab):Prop where
 e:T.en 95=none
 f:T.fn 95=some lex_count
 lex_digits:H_lex_digits T
structure H_strings_ContainsAny (T:Tab):Prop where
 e:T.en 98=none
 f:T.fn 98=some strings_ContainsAny
 strings_IndexAny:H_strings_IndexAny T
structure H_lex_pattern (T:Tab):Prop where
 e:T.en 99=none
 f:T.fn 99=some lex_pattern
 real_Parse:H_real_Parse T
structure H_lex_numeral_whole (T:Tab):Prop where
 e:T.en 75=none
 f:T.fn 75=some lex_numeral_whole
 strings_HasPrefix:H_strings_HasPrefix T
 lex_count:H_lex_count T
 lex_numeral_answer:H_lex_numeral_answer T
structure H_lex_numeral_radix (T:Tab):Prop where
 e:T.en 76=none
 f:T.fn 76=some lex_numeral_radix
 strings_Cut:H_strings_Cut T
 lex_count:H_lex_count T
 lex_numeral_answer:H_lex_numeral_answer T
structure H_lex_numeral_decimal (T:Tab):Prop where
 e:T.en 77=none
 f:T.fn 77=some lex_numeral_decimal
 strings_ContainsAny:H_strings_ContainsAny T
 lex_pattern:H_lex_pattern T
 real_Parse:H_real_Parse T
structure H_lex_Number (T:Tab):Prop where
 e:T.en 63=none
 f:T.fn 63=some lex_Number
 lex_numeral_whole:H_lex_numeral_whole T
 lex_numeral_radix:H_lex_numeral_radix T
 lex_numeral_decimal:H_lex_numeral_decimal T
end Go.Ev.B

/- Lists that grow: a slice value, and the cells that it holds. -/
namespace Go.Ev
open Go
variable {T : Tab} {st : St}
theorem Frm.hdel (h:st.Wf) (n:Nat):Frm [n] st ⟨hdel st.h n,st.nx⟩:=
 ⟨Nat.le_refl _,⟨fun m q hq=>by
   rw[hget_hdel]at hq
   split at hq
   ·cases hq
   ·exact h.lt _ _ hq,h.nd.sublist hdel_sub⟩,fun m hm hs=>by
   rw[hget_hdel,if_neg]
   rintro rfl
   exact hs List.mem_cons_self⟩
theorem Frm.refl (h:st.Wf) (S:List Nat):Frm S st st:=(Ext.refl h).fr S
theorem Ext.setNew {st s:St} (a:Ext st s) {n:Nat} {o p:AObj} (hg:hget s.h n=some p) (hn:st.nx≤n):Ext st ⟨hset s.h n o,s.nx⟩:=
 ((a.fr []).trans (Frm.set a.wf hg) (fun m hm=> .inr (by simp at hm;omega))).ext (by simp)
inductive SlAt (h:Heap) (v:AV) (n ty es k:Nat) (cs:List AV):Prop where
 | nil:v= .nilslice→cs=[]→k=0→SlAt h v n ty es k cs
 | buf:v= .slice n 0 k .full→hget h n=some (.buf ty es cs)→cs.length=k*es→SlAt h v n ty es k cs
 | made (ty':Nat):v= .slice n 0 k (.known k)→hget h n=some (.cells ty' false cs)→cs.length=k*es→SlAt h v n ty es k cs
theorem SlAt.len {h:Heap} {v:AV} {n ty es k:Nat} {cs:List AV} (a:SlAt h v n ty es k cs):cs.length=k*es:=by
 rcases a with ⟨_,h2,h3⟩ | ⟨_,_,h⟩ | ⟨_,_,_,h⟩
 ·subst h2;subst h3;simp
 ·exact h
 ·exact h
theorem SlAt.lenOf {h:Heap} {v:AV} {n ty es k:Nat} {cs:List AV} {ev:AO→AV} {x:AO} (a:SlAt h v n ty es k cs) (hx:ev x=v):PO.run ev (.lenOf false x)=some (.int .i64 k):=by
 rcases a with ⟨h1,h2,h3⟩ | ⟨h1,h2,h3⟩ | ⟨ty',h1,h2,h3⟩
 ·subst h3;simp[PO.run,hx,h1]
 ·simp[PO.run,hx,h1]
 ·simp[PO.run,hx,h1]
structure Grown (st:St) (n ty es k:Nat) (cs:List AV) (v:AV) (s:St) (n':Nat):Prop where
 sl:SlAt s.h v n' ty es k cs
 frm:Frm [n] st s
 new:n'=n∨st.nx≤n'
 lt:n<st.nx→n'<s.nx
theorem SlAt.append (hwf:st.Wf) {v x:AV} {n ty es k j b:Nat} {cs new:List AV} (a:SlAt st.h v n ty es k cs) (hx:srcCells st.h es x=some (j,new)) (hj:new.length=j*es)
  (hsc:new.all AV.sc=true) (hb:(k+j)*b≤35184372088832) (hb':k+j≤35184372088832) (hm:0<j∨¬∃c,v= .slice n 0 k (.known c)):
  CRes (aappend ty es b st v x) fun v' s=>∃n',Grown st n ty es (k+j) (cs++new) v' s n':=by
 unfold aappend
 rw[hx]
 simp only
 have hnil0:j=0→new=[]:=fun h=>List.length_eq_zero_iff.1 (by rw[hj,h];simp)
 rcases a with ⟨h1,h2,h3⟩ | ⟨h1,h2,h3⟩ | ⟨ty',h1,h2,h3⟩
 ·subst h1;subst h2;subst h3
  simp only[Nat.zero_add]at hb hb'⊢
  by_cases hj0:j=0
  ·rw[if_pos hj0]
   exact⟨n,.nil rfl (by rw[hnil0 hj0];rfl) hj0,.refl hwf _,.inl rfl,id⟩
  ·rw[if_neg hj0,if_pos ⟨hb,hb'⟩]
   refine⟨st.nx,.buf rfl (by simp[hget]) (by simpa using hj),(Ext.new hwf _).fr _,.inr (Nat.le_refl _),fun _=>Nat.lt_succ_self _⟩
 ·subst h1
  simp only
  rw[if_pos ⟨hb,hb'⟩]
  simp only[h2]
  rw[if_pos ⟨trivial,trivial,trivial,h3,hsc⟩]
  by_cases hj0:j=0
  ·rw[if_pos hj0]
   refine⟨n,?_,.refl hwf _,.inl rfl,id⟩
   subst hj0
   rw[hnil0 rfl]
   exact .buf rfl (by simpa using h2) (by simpa using h3)
  ·rw[if_neg hj0]
   refine⟨st.nx,.buf rfl (by simp[hget]) (by simp[h3,hj,Nat.add_mul]),?_,.inr (Nat.le_refl _),fun _=>Nat.lt_succ_self _⟩
   exact(Frm.hdel hwf n).trans ((Ext.new (Frm.hdel hwf n).wf _).fr [n]) (by simp)
 ·subst h1
  simp only
  have hj0:0<j:=by
   rcases hm with h | h
   ·exact h
   ·exact absurd ⟨k,rfl⟩ h
  rw[if_pos ⟨hb,hb'⟩,if_neg (by omega)]
  simp only[rdCells,h2]
  rw[if_pos (by omega)]
  refine⟨st.nx,.buf rfl (by simp[hget,←h3]) (by simp[h3,hj,Nat.add_mul]),(Ext.new hwf _).fr _,.inr (Nat.le_refl _),fun _=>Nat.lt_succ_self _⟩
theorem SlAt.rd {h:Heap} {v:AV} {n ty es k:Nat} {cs:List AV} (a:SlAt h v n ty es k cs) {o:Nat} (ho:o<cs.length):rdCell h n o=cs[o]? :=by
 rcases a with ⟨h1,h2,h3⟩ | ⟨h1,h2,h3⟩ | ⟨ty',h1,h2,h3⟩
 ·subst h2;simp at ho
 ·simp[rdCell,h2]
 ·simp[rdCell,h2]
theorem SlAt.store (hwf:st.Wf) {v:AV} {n ty es k:Nat} {cs:List AV} (a:SlAt st.h v n ty es k cs) {o:Nat} (ho:o<cs.length) {x:AV} (hx:x.sc=true):
  ∃h',wrCells st.h n o [x]=some h'∧SlAt h' v n ty es k (cs.set o x)∧Frm [n] st ⟨h',st.nx⟩:=by
 rcases a with ⟨h1,h2,h3⟩ | ⟨h1,h2,h3⟩ | ⟨ty',h1,h2,h3⟩
 ·subst h2;simp at ho
 ·exact⟨_,wr_buf h2 hx ho,.buf h1 (by rw[hget_hset h2,if_pos rfl]) (by simpa using h3),.set hwf h2⟩
 ·exact⟨_,wr_cells h2 hx ho,.made ty' h1 (by rw[hget_hset h2,if_pos rfl]) (by simpa using h3),.set hwf h2⟩
theorem SlAt.dropLoc (hwf:st.Wf) {v:AV} {n ty es k c:Nat} {cs:List AV} (a:SlAt st.h v n ty es k cs):SlAt (Go.Ev.dropLoc c st.h) v n ty es k cs:=by
 rcases a with ⟨h1,h2,h3⟩ | ⟨h1,h2,h3⟩ | ⟨ty',h1,h2,h3⟩
 ·exact .nil h1 h2 h3
 ·exact .buf h1 (hget_dropLoc_keep hwf h2 rfl) h3
 ·exact .made ty' h1 (hget_dropLoc_keep hwf h2 rfl) h3
theorem splice_all:∀(a b:List AV) (o:Nat),o+b.length=a.length→splice a o b=a.take o++b
 | a,[],o,h=>by simp only[splice,List.append_nil];rw[List.take_of_length_le (by simpa using Nat.le_of_eq h.symm)]
 | a,v::b,o,h=>by
   simp only[splice]
   simp only[List.length_cons]at h
   rw[splice_all _ b (o+1) (by simp;omega)]
   have h1:(a.set o v).take (o+1)=a.take o++[v]:=by
    rw[List.take_set]
    apply List.ext_getElem?
    intro k
    rw[List.getElem?_set]
    by_cases e:o=k
    ·subst e
     rw[if_pos rfl,if_pos (by simp;omega),List.getElem?_append_right (by simp;omega)]
     simp[show min o a.length=o by omega]
    ·rw[if_neg e]
     by_cases hk:k<o
     ·rw[List.getElem?_append_left (by simp;omega),List.getElem?_take,List.getElem?_take]
      rw[if_pos (by omega),if_pos hk]
     ·rw[List.getElem?_eq_none (by simp;omega),List.getElem?_eq_none (by simp;omega)]
   rw[h1,List.append_assoc];rfl
theorem splice_whole {a b:List AV} (h:b.length=a.length):splice a 0 b=b:=by
 rw[splice_all a b 0 (by omega)];simp
theorem splice_mid:∀(b' b c a:List AV),b'.length=b.length→splice (a++(b++c)) a.length b'=a++(b'++c)
 | [],[],c,a,_=>rfl
 | v::b',x::b,c,a,h=>by
   simp only[List.length_cons,Nat.add_right_cancel_iff]at h
   have h1:(a++(x::b++c)).set a.length v=(a++[v])++(b++c):=by
    rw[List.set_append_right _ _ (Nat.le_refl _)];simp
   simp only[splice]
   rw[h1]
   have:=splice_mid b' b c (a++[v]) h
   rw[List.length_append,List.length_singleton]at this
   rw[this];simp
theorem rd_all {h:Heap} {n ty k:Nat} {l:Bool} {cs:List AV} (hg:hget h n=some (.cells ty l cs)) (hk:cs.length=k):rdCells h n 0 k=some cs:=by
 simp only[rdCells,hg]
 rw[if_pos (by omega),List.drop_zero,List.take_of_length_le (by omega)]
theorem wr_all {h:Heap} {n ty:Nat} {l:Bool} {cs vs:List AV} (hg:hget h n=some (.cells ty l cs)) (hk:vs.length=cs.length) (hs:vs.all AV.sc=true):wrCells h n 0 vs=some (hset h n (.cells ty l vs)):=by
 simp only[wrCells,hg]
 rw[if_pos ⟨by omega,hs⟩,splice_whole hk]
attribute [go_sem] RO.run NO.run WO.run afill splice AV.nb apart
end Go.Ev

/- What the functions of lex tell: octets, regular characters, digits. -/
namespace Go.Ev
open Go
theorem wrap64' {n:Int} (h1: -9223372036854775808≤n) (h2:n≤9223372036854775807):IntKind.i64.wrap n=n:=wrap64_id h1 h2
variable {T : Tab} {st : St}
theorem indexByte_call (H:B.H_strings_IndexByte T) {s:List UInt8} {c:Int}:call T (.fn 84 [] []) [.str s,.int .u8 c] st=some (.int .i64 (Lib.indexByte s c.toNat.toUInt8),st):=by
 rw[call_entry H.en]
 rfl
theorem index1_call (H:B.H_stringslite_Index T) {s:List UInt8} {c:UInt8}:call T (.fn 142 [] []) [.str s,.str [c]] st=some (.int .i64 (Lib.indexByte s c),st):=by
 rw[call_entry H.en]
 rfl
def marks:List UInt8:=[0,9,10,12,13,32,40,41,60,62,91,93,123,125,47,37]
def isReg (c:UInt8):Bool:= !(decide (128≤c.toNat) && decide (c.toNat<160)) && decide (Lib.indexByte marks c<0)
def regAll:List UInt8→Bool
 | []=>true
 | c::r=>isReg c && regAll r
theorem idx_some {s:List UInt8} {i:Nat} (h:i<s.length):∃c,s[i]? =some c∧s.drop i=c::s.drop (i+1):=⟨s[i],List.getElem?_eq_getElem h,List.drop_eq_getElem_cons h⟩
end Go.Ev

/- Loops over functions on symbolic data. -/
namespace Go.Ev
open Go
variable {T : Tab} {e : Env} {st : St}
theorem res_rangeFunc {f:AO} {ps:List Nat} {assign body:MCode} {Q:Ex→Env→St→Prop}
  (h:CRes (call T (f.ev e) [.yield st.nx] ⟨(st.nx,.loop .ready e ps assign body)::st.h,st.nx+1⟩) fun _ s=>
    (hget s.h st.nx=some (.loop .ready e ps assign body)∧Q .norm e ⟨hdel s.h st.nx,s.nx⟩)∨(∃x,hget s.h st.nx=some (.loop (.done x) e ps assign body)∧Q x e ⟨hdel s.h st.nx,s.nx⟩)):
  Res (run T (.rangeFunc f ps assign body) e st) Q:=by
 obtain⟨v,s,h1,h2⟩:=h.elim
 rw[run_eq]
 have h1':evCall T (run T) (f.ev e) [.yield st.nx] ⟨(st.nx,.loop .ready e ps assign body)::st.h,st.nx+1⟩=some (v,s):=h1
 simp only[evStep,h1']
 rcases h2 with ⟨h3,h4⟩ | ⟨x,h3,h4⟩
 ·simp only[h3];exact h4
 ·simp only[h3];exact h4
def yEnd (l:Nat) (env:Env) (ps:List Nat) (assign body:MCode) (Q:AV→St→Prop) (x:Ex) (s:St):Prop:=
 hget s.h l=some (.loop .busy env ps assign body)∧
  match x with
  | .norm=>Q (.bool true) ⟨hset s.h l (.loop .ready env ps assign body),s.nx⟩
  | x=>Q (.bool false) ⟨hset s.h l (.loop (.done x) env ps assign body),s.nx⟩
theorem cres_yield {l:Nat} {args:List AV} {env:Env} {ps:List Nat} {assign body:MCode} {Q:AV→St→Prop} (hg:hget st.h l=some (.loop .ready env ps assign body)) (hl:args.length=ps.length)
  (h:Res (run T assign (bindEnv env ps args) st) fun x e1 s1=>x= .norm∧hget s1.h l=some (.loop .ready env ps assign body)∧
    Res (run T body e1 ⟨hset s1.h l (.loop .busy env ps assign body),s1.nx⟩) fun x _ s2=>yEnd l env ps assign body Q x s2):CRes (call T (.yield l) args st) Q:=by
 obtain⟨x,e1,s1,h1,rfl,h2,h3⟩:=h.elim
 obtain⟨x,e2,s2,h4,h5,h6⟩:=h3.elim
 simp only[call,evCall,evYield,hg]
 rw[if_pos hl]
 simp only[h1,h2,h4,h5]
 cases x with
 | norm=>exact h6
 | exit i=>exact h6
 | ret=>exact h6
@[go_sem] theorem bindEnv_one (e:Env) (t:Nat) (v:AV):bindEnv e [t] [v]=(t,v)::e:=rfl
@[go_sem] theorem bindEnv_two (e:Env) (t u:Nat) (v w:AV):bindEnv e [t,u] [v,w]=(u,w)::(t,v)::e:=rfl
theorem call_any {k:Nat} {mf:MFun} (hen:T.en k=none) (hf:T.fn k=some mf) {first args cap:List AV} (hl:(first++args++cap).length=mf.nargs) (hr:mf.results=[]) {Q:St→Prop}
  (h:Res (run T mf.body (argEnv 0 (first++args++cap)) st) fun x _ s=>(x= .norm∨x= .ret)∧Q ⟨dropLoc st.nx s.h,s.nx⟩):CRes (call T (.fn k first cap) args st) fun _ s=>Q s:=
 call_res hen hf hl (h.mono fun _ _ _ ⟨h1,h2⟩=>⟨h1,.tuple [],by rw[hr];rfl,h2⟩)
end Go.Ev

/- Parts of strings. -/
namespace Go.Ev
open Go
@[go_sem] theorem acells_fn (f:Nat) (a b:List AV):acells (.fn f a b)=[.fn f a b]:=rfl
@[go_sem] theorem acells_map (n:Nat):acells (.map n)=[.map n]:=rfl
@[go_sem] theorem acells_nilptr:acells .nilptr=[.nilptr]:=rfl
@[go_sem] theorem acells_nilmap:acells .nilmap=[.nilmap]:=rfl
@[go_sem] theorem acells_nilfn:acells .nilfn=[.nilfn]:=rfl
@[go_sem] theorem acells_niliface:acells .niliface=[.niliface]:=rfl
@[go_sem] theorem sc_fn (f:Nat) (a b:List AV):(AV.fn f a b).sc=true:=rfl
@[go_sem] theorem sc_map (n:Nat):(AV.map n).sc=true:=rfl
@[go_sem] theorem sc_nilptr:AV.nilptr.sc=true:=rfl
@[go_sem] theorem sc_nilmap:AV.nilmap.sc=true:=rfl
@[go_sem] theorem sc_nilfn:AV.nilfn.sc=true:=rfl
@[go_sem] theorem sc_niliface:AV.niliface.sc=true:=rfl
theorem asubS_to {s:List UInt8} {j:Int} {k:IntKind} (h0:0≤j) (h1:j≤s.length):asubS s none (some (.int k j))=some (.str (s.take j.toNat)):=by
 simp only[asubS,abounds,bnd,abound]
 rw[if_pos ⟨h0,h1⟩]
 simp
theorem asubS_from {s:List UInt8} {i:Int} {k:IntKind} (h0:0≤i) (h1:i≤s.length):asubS s (some (.int k i)) none=some (.str (s.drop i.toNat)):=by
 simp only[asubS,abounds,bnd,abound]
 rw[if_pos ⟨h0,h1⟩]
 simp only[Option.some.injEq,AV.str.injEq]
 rw[List.take_of_length_le (by simp)]
theorem asubS_some {s:List UInt8} {i j:Int} {k k':IntKind} (h0:0≤i) (h1:i≤j) (h2:j≤s.length):asubS s (some (.int k i)) (some (.int k' j))=some (.str ((s.drop i.toNat).take (j.toNat - i.toNat))):=by
 simp only[asubS,abounds,bnd,abound]
 rw[if_pos ⟨by omega,h2⟩]
 simp only
 rw[if_pos ⟨h0,by omega⟩]
theorem Frm.get' {S:List Nat} {st st':St} (a:Frm S st st') {n:Nat} {o:AObj} (hl:n<st.nx) (h:hget st.h n=some o) (hn:n∉S):hget st'.h n=some o:=by
 rw[a.keep n hl hn,h]
theorem hget_hset_ne {h:Heap} {n m:Nat} {o p:AObj} (hg:hget h n=some p) (hne:n≠m):hget (hset h n o) m=hget h m:=by
 rw[hget_hset hg,if_neg hne]
theorem hget_hset_self {h:Heap} {n:Nat} {o p:AObj} (hg:hget h n=some p):hget (hset h n o) n=some o:=by
 rw[hget_hset hg,if_pos rfl]
theorem Ext.frm {S:List Nat} {st s s':St} (a:Ext st s) (b:Frm S s s') (h:∀n∈S,st.nx≤n):Ext st s':=
 ⟨Nat.le_trans a.nx b.nx,b.wf,fun n hn=>by
   rw[b.keep n (Nat.lt_of_lt_of_le hn a.nx) (fun hs=>by have:=h n hs;omega),a.keep n hn]⟩
theorem put_cut {T:Tab} {d:Option Nat} {e:Env} {l:List MI} {K:Env→St→Prop} {v:AV} {s:St} (P:Env→St→Prop) (h:kPut d e (kOps (call T) l P) v s) (hk:∀e s,P e s→K e s):kPut d e (kOps (call T) l K) v s:=by
 simp only[kPut_eq,kOps_eq]at h⊢
 obtain⟨e1,s1,h1,h2⟩:=h.elim
 rw[h1]
 exact hk _ _ h2
theorem putI_cut {T:Tab} {nm:Nat} {d:Option Nat} {e:Env} {dn:List (Nat×MI)} {l:List RI} {K:Env→St→Prop} {v:AV} {s:St} (P:Env→St→Prop) (h:kPutI nm d e (kR (call T) dn l P) v s) (hk:∀e s,P e s→K e s):kPutI nm d e (kR (call T) dn l K) v s:=by
 simp only[kPutI_eq,kR_eq]at h⊢
 obtain⟨e1,s1,h1,h2⟩:=h.elim
 rw[h1]
 exact hk _ _ h2
theorem seq_cut {T:Tab} {A C:MCode} {e:Env} {st:St} {Q:Ex→Env→St→Prop} (P:Ex→Env→St→Prop) (hA:∀l,A≠.keep l) (h1:Res (run T A e st) P) (h2:∀x e s,P x e s→kSeq T C Q x e s):Res (run T (.seq A C) e st) Q:=by
 rw[run_seq' hA,Res_seqR]
 exact h1.mono h2
theorem rd_one {h:Heap} {n ty:Nat} {l:Bool} {v:AV} (hg:hget h n=some (.cells ty l [v])):rdCell h n 0=some v:=by simp[rdCell,hg]
theorem wr_one {h:Heap} {n ty:Nat} {l:Bool} {u v:AV} (hg:hget h n=some (.cells ty l [u])) (hs:v.sc=true):wrCells h n 0 [v]=some (hset h n (.cells ty l [v])):=wr_all hg rfl (by simp[hs])
end Go.Ev

/- Digits are counted: lex.count and the reference's count. -/
namespace Go.Ev
open Go
variable {T : Tab} {st : St}
def digV (c:UInt8):Nat:=if 48≤c.toNat∧c.toNat≤57 then c.toNat - 48 else if 97≤c.toNat∧c.toNat≤122 then c.toNat - 87 else if 65≤c.toNat∧c.toNat≤90 then c.toNat - 55 else 99
theorem digV_le (c:UInt8):digV c≤99:=by unfold digV;(repeat' split) <;> omega
theorem value_tells (H:B.H_lex_value T) (hwf:st.Wf) (c:UInt8):Tells T st (.fn 122 [] []) [.int .u8 c.toNat] (.int .i64 (digV c)):=by
 have h:(List.range 256).all (fun c=>saysP T0 40 B.lex_value [.int .u8 c] (.int .i64 (digV (UInt8.ofNat c))))=true:=by kernel_rfl
 have:=all_octets h c
 simp only[UInt8.ofNat_toNat]at this
 exact tells_pure pureIn0 H.e H.f hwf rfl this
def digY (base:Int) (c:UInt8):Int:=if(digV c:Int)≥base then -1 else digV c
theorem digits1_loop (H:B.H_lex_digits_1 T) {Y:AV} {a b ty tb:Nat} {la lb:Bool} {s:List UInt8} {base:Int} (hs:s.length<9223372036854775807) (P:Nat→St→Prop) (R:St→Prop)
  (hwf:∀i s1,P i s1→s1.Wf) (ha:∀i s1,P i s1→hget s1.h a=some (.cells ty la [.str s])) (hb:∀i s1,P i s1→hget s1.h b=some (.cells tb lb [.int .i64 base]))
  (hext:∀i s1 s2,P i s1→Ext s1 s2→P i s2)
  (hY:∀i s1 c,P i s1→s[i]? =some c→CRes (call T Y [.int .i64 (digY base c)] s1) fun v s2=>(v= .bool true∧P (i+1) s2)∨(v= .bool false∧R s2)):
  ∀(m i:Nat) (e:Env) (st1:St),i+m=s.length→P i st1→eget e 0=Y→eget e 1= .ptr a 0→eget e 2= .ptr b 0→eget e 7= .int .i64 s.length→eget e 8= .int .i64 i→
  Res (run T (.loop B.lex_digits_1_l0) e st1) fun x e' s'=>(x= .exit 0∧P s.length s')∨(x= .ret∧R s'):=by
 intro m
 induction m with
 | zero=>
   intro i e st1 hi hP g0 g1 g2 g7 g8
   have hil:i=s.length:=by omega
   subst hil
   rw[run_loop]
   simp[B.lex_digits_1_l0,go_sem,g0,g1,g2,g7,g8,hP]
 | succ m ih=>
   intro i e st1 hi hP g0 g1 g2 g7 g8
   have hil:i<s.length:=by omega
   have hil':(i:Int)<s.length:=by omega
   obtain⟨c,hc,hd⟩:=idx_some hil
   have ra:=rd_one (ha _ _ hP)
   rw[run_loop]
   simp[B.lex_digits_1_l0,go_sem,g0,g1,g2,g7,g8,hil',RO.run,ra,hc]
   refine(value_tells H.lex_value (hwf _ _ hP) c).use fun s1 hs1=> ?_
   have hP1:=hext _ _ _ hP hs1
   have rb:=rd_one (hb _ _ hP1)
   have hy:=hY i s1 c hP1 hc
   by_cases hq:base≤(digV c:Int)
   ·have hdy:digY base c= -1:=by simp[digY,hq]
    rw[hdy]at hy
    simp[go_sem,RO.run,rb,hq]
    refine hy.mono ?_
    rintro v s2 (⟨rfl,hP2⟩ | ⟨rfl,hR⟩)
    ·simp[go_sem]
     refine ih (i+1) _ s2 (by omega) hP2 ?_ ?_ ?_ ?_ ?_
     ·simp[go_sem]
     ·simp[go_sem]
     ·simp[go_sem]
     ·simp[go_sem]
     ·simp[go_sem];rw[wrap64' (by omega) (by omega)]
    ·simp[go_sem,hR]
   ·have hdy:digY base c=digV c:=by simp[digY,hq]
    rw[hdy]at hy
    simp[go_sem,RO.run,rb,hq]
    refine hy.mono ?_
    rintro v s2 (⟨rfl,hP2⟩ | ⟨rfl,hR⟩)
    ·simp[go_sem]
     refine ih (i+1) _ s2 (by omega) hP2 ?_ ?_ ?_ ?_ ?_
     ·simp[go_sem]
     ·simp[go_sem]
     ·simp[go_sem]
     ·simp[go_sem]
     ·simp[go_sem];rw[wrap64' (by omega) (by omega)]
    ·simp[go_sem,hR]
def cntFrom (cap:Nat) (base:Int):Nat→List UInt8→Option Nat
 | n,[]=>some n
 | n,c::r=>if(digV c:Int)≥base then none else cntFrom cap base (min (n*base.toNat+digV c) cap) r
def cntS (base:Int) (s:List UInt8):Nat×Bool:=
 match cntFrom 1099511627776 base 0 s with
 | some n=>(n,!decide (s=[]))
 | none=>(0,false)
theorem digits_call (H:B.H_lex_digits T) (hwf:st.Wf) {s:List UInt8} {base:Int} {Q:AV→St→Prop}
  (h:Q (.fn 119 [] [.ptr st.nx 0,.ptr (st.nx+1) 0]) ⟨(st.nx+1,.cells 3 false [.int .i64 base])::(st.nx,.cells 9 false [.str s])::st.h,st.nx+2⟩):
  CRes (call T (.fn 112 [] []) [.str s,.int .i64 base] st) Q:=by
 refine call_res H.e H.f rfl ?_
 have hd:dropLoc st.nx ((st.nx+1,AObj.cells 3 false [.int .i64 base])::(st.nx,.cells 9 false [.str s])::st.h)=(st.nx+1,AObj.cells 3 false [.int .i64 base])::(st.nx,.cells 9 false [.str s])::st.h:=by
  have:locNames st.nx ((st.nx+1,AObj.cells 3 false [.int .i64 base])::(st.nx,.cells 9 false [.str s])::st.h)=[]:=by
   simp only[locNames]
   exact locNames_nil fun n o ho=>hwf.lt n o ho
  rw[dropLoc_eq,this,hdrop_nil]
 simp[B.lex_digits,go_sem,NO.run,AV.nb,hd]
 exact h
theorem frm_drop {S:List Nat} {st s:St} {c:Nat} (h:Frm S st s) (hc:st.nx≤c):Frm S st ⟨dropLoc c s.h,s.nx⟩:=
 ⟨h.nx,h.wf.dropLoc _,fun n hn hs=>by rw[hget_dropLoc_lt (by omega),h.keep n hn hs]⟩
theorem count_tells (H:B.H_lex_count T) (hwf:st.Wf) {s:List UInt8} (hs:s.length<9223372036854775807) {base:Int} (h0:0≤base) (h1:base≤1000000):
  Tells T st (.fn 95 [] []) [.str s,.int .i64 base] (.tuple [.int .i64 (cntS base s).1,.bool (cntS base s).2]):=by
 refine tells_of H.e H.f rfl ?_
 have x1:=Ext.new hwf (.cells 3 true [.int .i64 base])
 have x2:=x1.trans (Ext.new x1.wf (.cells 3 true [.int .i64 0]))
 have x3:=x2.trans (Ext.new x2.wf (.cells 4 true [.bool false]))
 have x4:=x3.trans (Ext.new x3.wf (.cells 3 true [.int .i64 0]))
 simp only[Nat.add_assoc,Nat.reduceAdd]at x2 x3 x4
 simp[B.lex_count,go_sem,NO.run,AV.nb,WO.run,wrCells,hget_cons,hset_cons,splice,RO.run,rdCell,Nat.add_assoc]
 refine digits_call H.lex_digits x4.wf ?_
 simp[go_sem,Nat.add_assoc]
 refine res_rangeFunc ?_
 simp[go_sem,Nat.add_assoc]
 refine call_any H.lex_digits.lex_digits_1.e H.lex_digits.lex_digits_1.f rfl rfl ?_
 have x5:=x4.trans (Ext.new x4.wf (.cells 9 false [.str s]))
 have x6:=x5.trans (Ext.new x5.wf (.cells 3 false [.int .i64 base]))
 simp only[Nat.add_assoc,Nat.reduceAdd]at x5 x6
 generalize hE:([(10,AV.fn 119 [] [.ptr (st.nx+4) 0,.ptr (st.nx+5) 0]),(9,.int .i64 base),(8,.str s),(6,.ptr (st.nx+3) 0),(5,.ptr (st.nx+2) 0),(4,.ptr (st.nx+1) 0),(3,.ptr st.nx 0),(0,.str s),(1,.int .i64 base)]:Env)=E
 have q0:eget E 0= .str s:=by rw[←hE];simp[go_sem]
 have q3:eget E 3= .ptr st.nx 0:=by rw[←hE];simp[go_sem]
 have q4:eget E 4= .ptr (st.nx+1) 0:=by rw[←hE];simp[go_sem]
 have q5:eget E 5= .ptr (st.nx+2) 0:=by rw[←hE];simp[go_sem]
 have q6:eget E 6= .ptr (st.nx+3) 0:=by rw[←hE];simp[go_sem]
 clear hE
 have x7:=x6.trans (Ext.new x6.wf (.loop .ready E [11] (.reg [⟨some 7,none,.p (.mov (.t 11))⟩]) B.lex_count_l0))
 simp only[Nat.add_assoc,Nat.reduceAdd]at x7
 generalize hS:(⟨(st.nx+6,AObj.loop .ready E [11] (.reg [⟨some 7,none,.p (.mov (.t 11))⟩]) B.lex_count_l0)::(st.nx+5,.cells 3 false [.int .i64 base])::(st.nx+4,.cells 9 false [.str s])::
  (st.nx+3,.cells 3 true [.int .i64 0])::(st.nx+2,.cells 4 true [.bool false])::(st.nx+1,.cells 3 true [.int .i64 0])::(st.nx,.cells 3 true [.int .i64 base])::st.h,st.nx+7⟩:St)=st7 at x7⊢
 have n7:st7.nx=st.nx+7:=by rw[←hS]
 have gl:hget st7.h (st.nx+6)=some (.loop .ready E [11] (.reg [⟨some 7,none,.p (.mov (.t 11))⟩]) B.lex_count_l0):=by rw[←hS];simp[hget_cons]
 have gb:hget st7.h (st.nx+5)=some (.cells 3 false [.int .i64 base]):=by rw[←hS];simp[hget_cons]
 have ga:hget st7.h (st.nx+4)=some (.cells 9 false [.str s]):=by rw[←hS];simp[hget_cons]
 have gn:hget st7.h (st.nx+3)=some (.cells 3 true [.int .i64 0]):=by rw[←hS];simp[hget_cons]
 have g2:hget st7.h (st.nx+2)=some (.cells 4 true [.bool false]):=by rw[←hS];simp[hget_cons]
 have g1:hget st7.h (st.nx+1)=some (.cells 3 true [.int .i64 0]):=by rw[←hS];simp[hget_cons]
 have g0:hget st7.h st.nx=some (.cells 3 true [.int .i64 base]):=by rw[←hS];simp[hget_cons]
 clear hS x1 x2 x3 x4 x5 x6
 have ra:=rd_one ga
 simp[B.lex_digits_1,go_sem,RO.run,ra]
 refine(digits1_loop H.lex_digits.lex_digits_1 (Y:= .yield (st.nx+6)) (a:=st.nx+4) (b:=st.nx+5) (ty:=9) (tb:=3) (la:=false) (lb:=false) (s:=s) (base:=base) hs
  (fun i s1=>∃v,cntFrom 1099511627776 base 0 s=cntFrom 1099511627776 base v (s.drop i)∧v≤1099511627776∧Frm [st.nx+3,st.nx+6] st7 s1∧
    hget s1.h (st.nx+6)=some (.loop .ready E [11] (.reg [⟨some 7,none,.p (.mov (.t 11))⟩]) B.lex_count_l0)∧hget s1.h (st.nx+3)=some (.cells 3 true [.int .i64 v]))
  (fun s1=>cntFrom 1099511627776 base 0 s=none∧Frm [st.nx+1,st.nx+2,st.nx+3,st.nx+6] st7 s1∧hget s1.h (st.nx+6)=some (.loop (.done .ret) E [11] (.reg [⟨some 7,none,.p (.mov (.t 11))⟩]) B.lex_count_l0)∧
    hget s1.h (st.nx+1)=some (.cells 3 true [.int .i64 0])∧hget s1.h (st.nx+2)=some (.cells 4 true [.bool false]))
  ?_ ?_ ?_ ?_ ?_ s.length 0 _ st7 (by simp) ?_ ?_ ?_ ?_ ?_ ?_).mono ?_
 ·rintro i s1 ⟨v,_,_,hf,_⟩;exact hf.wf
 ·rintro i s1 ⟨v,_,_,hf,_⟩;exact hf.get' (by omega) ga (by simp)
 ·rintro i s1 ⟨v,_,_,hf,_⟩;exact hf.get' (by omega) gb (by simp)
 ·rintro i s1 s2 ⟨v,h1,h2,hf,h3,h4⟩ hx
  exact⟨v,h1,h2,hf.trans (hx.fr []) (by simp),hx.get hf.wf h3,hx.get hf.wf h4⟩
 ·rintro i s1 c ⟨v,k1,k2,hf,k3,k4⟩ hc
  have hil:i<s.length:=(List.getElem?_eq_some_iff.1 hc).1
  have hd:s.drop i=c::s.drop (i+1):=by
   rw[List.drop_eq_getElem_cons hil,(List.getElem?_eq_some_iff.1 hc).2]
  have hnx:=hf.nx
  have hwl:=Frm.set hf.wf k3 (o:= .loop .busy E [11] (.reg [⟨some 7,none,.p (.mov (.t 11))⟩]) B.lex_count_l0)
  have fb:=hf.trans hwl (by simp)
  refine cres_yield k3 rfl ?_
  simp[go_sem,k3]
  generalize hB:(⟨hset s1.h (st.nx+6) (AObj.loop .busy E [11] (.reg [⟨some 7,none,.p (.mov (.t 11))⟩]) B.lex_count_l0),s1.nx⟩:St)=s2 at fb⊢
  have nb:s2.nx=s1.nx:=by rw[←hB]
  have bl:hget s2.h (st.nx+6)=some (.loop .busy E [11] (.reg [⟨some 7,none,.p (.mov (.t 11))⟩]) B.lex_count_l0):=by rw[←hB];exact hget_hset_self k3
  have bn:hget s2.h (st.nx+3)=some (.cells 3 true [.int .i64 v]):=by rw[←hB];exact(hget_hset_ne k3 (by omega)).trans k4
  have bb:=fb.get' (by omega) gb (by simp)
  have b1:=fb.get' (by omega) g1 (by simp)
  have b2:=fb.get' (by omega) g2 (by simp)
  have b0:=fb.get' (by omega) g0 (by simp)
  clear hB
  by_cases hq:base≤(digV c:Int)
  ·have hdy:digY base c= -1:=by simp[digY,hq]
   have w1:=wr_one b1 (v:= .int .i64 0) rfl
   have f1:=Frm.set fb.wf b1 (o:= .cells 3 true [.int .i64 0])
   have b2':=(hget_hset_ne (m:=st.nx+2) b1 (o:= .cells 3 true [.int .i64 0]) (by omega)).trans b2
   have w2:=wr_one b2' (v:= .bool false) rfl
   have f2:=Frm.set (st:=⟨_,_⟩) f1.wf b2' (o:= .cells 4 true [.bool false])
   have b6':=(hget_hset_ne (m:=st.nx+6) b2' (o:= .cells 4 true [.bool false]) (by omega)).trans ((hget_hset_ne (m:=st.nx+6) b1 (o:= .cells 3 true [.int .i64 0]) (by omega)).trans bl)
   simp[B.lex_count_l0,go_sem,hdy,q0,q3,q4,q5,q6,WO.run,w1,w2,yEnd]
   refine⟨b6',by rw[k1,hd];simp[cntFrom,hq],?_,hget_hset_self b6',?_,?_⟩
   ·exact(((fb.mono (R:=[st.nx+1,st.nx+2,st.nx+3,st.nx+6]) (by simp)).trans f1 (by simp)).trans f2 (by simp)).trans (Frm.set (st:=⟨_,_⟩) f2.wf b6') (by simp)
   ·rw[hget_hset_ne b6' (by omega),hget_hset_ne b2' (by omega),hget_hset_self b1]
   ·rw[hget_hset_ne b6' (by omega),hget_hset_self b2']
  ·have hdy:digY base c=digV c:=by simp[digY,hq]
   have hnn:¬(digV c:Int)<0:=by omega
   have hle:=digV_le c
   have hm:(v:Int)*base≤1099511627776*1000000:=Int.mul_le_mul (by omega) h1 h0 (by omega)
   have hm0:0≤(v:Int)*base:=Int.mul_nonneg (by omega) h0
   have e1:IntKind.i64.wrap ((v:Int)*base)=v*base:=wrap64' (by omega) (by omega)
   have e2:IntKind.i64.wrap ((v:Int)*base+digV c)=v*base+digV c:=wrap64' (by omega) (by omega)
   have e3:(if(1099511627776:Int)<v*base+digV c then 1099511627776 else v*base+digV c)=((min (v*base.toNat+digV c) 1099511627776:Nat):Int):=by
    have:((v*base.toNat:Nat):Int)=v*base:=by rw[Int.natCast_mul,Int.toNat_of_nonneg h0]
    split <;> omega
   have w1:=wr_one bn (v:= .int .i64 ((min (v*base.toNat+digV c) 1099511627776:Nat):Int)) rfl
   have f1:=Frm.set fb.wf bn (o:= .cells 3 true [.int .i64 ((min (v*base.toNat+digV c) 1099511627776:Nat):Int)])
   have b6':=(hget_hset_ne (m:=st.nx+6) bn (o:= .cells 3 true [.int .i64 ((min (v*base.toNat+digV c) 1099511627776:Nat):Int)]) (by omega)).trans bl
   simp[B.lex_count_l0,go_sem,hdy,q0,q3,q4,q5,q6,RO.run,WO.run,rd_one bn,rd_one b0,hnn,e1,e2]
   rw[e3,w1]
   simp[go_sem,yEnd]
   refine⟨b6',min (v*base.toNat+digV c) 1099511627776,by rw[k1,hd];simp[cntFrom,hq],by omega,?_,hget_hset_self b6',?_⟩
   ·exact(fb.trans f1 (by simp)).trans (Frm.set (st:=⟨_,_⟩) f1.wf b6') (by simp)
   ·rw[hget_hset_ne b6' (by omega),hget_hset_self bn]
 ·exact⟨0,by simp,by omega,.refl x7.wf _,gl,gn⟩
 ·simp[go_sem]
 ·simp[go_sem]
 ·simp[go_sem]
 ·simp[go_sem]
 ·simp[go_sem]
 ·have hnl:(Ext.refl x7.wf).nx=(Ext.refl x7.wf).nx:=rfl
  have hlast:∀(s2:St) (o:AObj) (S:List Nat),Frm S st7 s2→hget s2.h (st.nx+6)=some o→hget (dropLoc st7.nx s2.h) (st.nx+6)=some o∧Frm ((st.nx+6)::S) st7 ⟨hdel (dropLoc st7.nx s2.h) (st.nx+6),s2.nx⟩:=fun s2 o S hf hg=>by
   have f1:=frm_drop hf (Nat.le_refl _)
   refine⟨by rw[hget_dropLoc_lt (by omega)];exact hg,?_⟩
   exact(f1.mono (R:=(st.nx+6)::S) (fun n hn=>List.mem_cons_of_mem _ hn)).trans (Frm.hdel (st:=⟨_,_⟩) f1.wf (st.nx+6)) (by simp)
  rintro x e s2 (⟨rfl,v,k1,k2,hf,k3,k4⟩ | ⟨rfl,k1,hf,k3,k4,k5⟩)
  ·obtain⟨m1,m2⟩:=hlast s2 _ _ hf k3
   have m4:hget (hdel (dropLoc st7.nx s2.h) (st.nx+6)) (st.nx+3)=some (.cells 3 true [.int .i64 v]):=by
    rw[hget_hdel,if_neg (by omega),hget_dropLoc_lt (by omega)];exact k4
   have m5:=m2.get' (by omega) g1 (by simp)
   have m6:=m2.get' (by omega) g2 (by simp)
   have w1:=wr_one m5 (v:= .int .i64 v) rfl
   have f1:=Frm.set (st:=⟨_,_⟩) m2.wf m5 (o:= .cells 3 true [.int .i64 v])
   have m6':=(hget_hset_ne (m:=st.nx+2) m5 (o:= .cells 3 true [.int .i64 v]) (by omega)).trans m6
   have w2:=wr_one m6' (v:= .bool !decide (s=[])) rfl
   have f2:=Frm.set (st:=⟨_,_⟩) f1.wf m6' (o:= .cells 4 true [.bool !decide (s=[])])
   have m7:=hget_hset_self m6' (o:= .cells 4 true [.bool !decide (s=[])])
   have m8:=(hget_hset_ne (m:=st.nx+1) m6' (o:= .cells 4 true [.bool !decide (s=[])]) (by omega)).trans (hget_hset_self m5 (o:= .cells 3 true [.int .i64 v]))
   have hc:cntS base s=(v,!decide (s=[])):=by
    simp only[cntS,k1]
    simp[cntFrom]
   have hq:seq8 s []=decide (s=[]):=by cases s <;> rfl
   simp[go_sem,m1,rd_one m4,WO.run,w1,w2,fresults,resVals,resVal,RO.run,rd_one m7,rd_one m8,hc,hq,q0,q4,q5,q6]
   exact x7.frm (((m2.mono (R:=[st.nx+1,st.nx+2,st.nx+3,st.nx+6]) (by simp)).trans f1 (by simp)).trans f2 (by simp)) (by simp)
  ·obtain⟨m1,m2⟩:=hlast s2 _ _ hf k3
   have m4:hget (hdel (dropLoc st7.nx s2.h) (st.nx+6)) (st.nx+1)=some (.cells 3 true [.int .i64 0]):=by
    rw[hget_hdel,if_neg (by omega),hget_dropLoc_lt (by omega)];exact k4
   have m5:hget (hdel (dropLoc st7.nx s2.h) (st.nx+6)) (st.nx+2)=some (.cells 4 true [.bool false]):=by
    rw[hget_hdel,if_neg (by omega),hget_dropLoc_lt (by omega)];exact k5
   have hc:cntS base s=(0,false):=by simp only[cntS,k1]
   simp[go_sem,m1,fresults,resVals,resVal,RO.run,rd_one m4,rd_one m5,q4,q5,hc]
   exact x7.frm m2 (by simp)
end Go.Ev

/- Number texts: ints, with and without a base. -/
namespace Go.Ev
open Go
variable {T : Tab} {st : St}
def tokC (k n:Int) (t:List UInt8):List AV:=[.int .i64 k,.int .i64 n,.str t]
def tokA (k n:Int) (t:List UInt8) (e:Int):AV:= .tuple [.agg (tokC k n t),.int .i64 e]
theorem tok_wr {h:Heap} {m ty:Nat} {l:Bool} {k n k' n':Int} {t t':List UInt8} (hg:hget h m=some (.cells ty l [.int .i64 k,.int .i64 n,.str t])):
  wrCells h m 0 [.int .i64 k',.int .i64 n',.str t']=some (hset h m (.cells ty l [.int .i64 k',.int .i64 n',.str t'])):=wr_all hg rfl rfl
theorem tok_rd {h:Heap} {m ty:Nat} {l:Bool} {k n:Int} {t:List UInt8} (hg:hget h m=some (.cells ty l [.int .i64 k,.int .i64 n,.str t])):
  rdCells h m 0 3=some [.int .i64 k,.int .i64 n,.str t]:=rd_all hg rfl
attribute [go_sem] afill splice AV.nb apart
theorem rd_tok (h:Heap) (m ty:Nat) (l:Bool) (a b c:AV):rdCells ((m,.cells ty l [a,b,c])::h) m 0 3=some [a,b,c]:=rd_all (ty:=ty) (l:=l) (by simp[hget_cons]) rfl
theorem wr_tok (h:Heap) (m ty:Nat) (l:Bool) (a b c:AV) {k n:Int} {t:List UInt8}:wrCells ((m,.cells ty l [a,b,c])::h) m 0 [.int .i64 k,.int .i64 n,.str t]=some ((m,.cells ty l [.int .i64 k,.int .i64 n,.str t])::h):=by
 rw[wr_all (ty:=ty) (l:=l) (cs:=[a,b,c]) (vs:=[.int .i64 k,.int .i64 n,.str t]) (by simp[hget_cons]) rfl rfl];simp[hset_cons]
def ansS (n:Int) (len:Nat):AV:=if 40<len∨n< -2147483648∨2147483647<n then tokA 0 0 [] 26 else tokA 1 n [] 0
theorem answer_tells (H:B.H_lex_numeral_answer T) (hwf:st.Wf) {s:List UInt8} {n:Int}:Tells T st (.fn 96 [] []) [.str s,.int .i64 n] (ansS n s.length):=by
 refine tells_of H.e H.f rfl ?_
 have hx:=fun o=>Ext.new hwf o
 by_cases h1:(40:Int)<s.length
 ·have h1':40<s.length:=by omega
  simp[B.lex_numeral_answer,go_sem,NO.run,WO.run,wr_tok,rd_tok,fresults,resVals,resVal,RO.run,h1,h1',ansS,tokA,tokC,hx]
 ·have h1':¬40<s.length:=by omega
  by_cases h2:n< -2147483648
  ·simp[B.lex_numeral_answer,go_sem,NO.run,WO.run,wr_tok,rd_tok,fresults,resVals,resVal,RO.run,h1,h1',h2,ansS,tokA,tokC,hx]
  ·by_cases h3:2147483647<n
   ·simp[B.lex_numeral_answer,go_sem,NO.run,WO.run,wr_tok,rd_tok,fresults,resVals,resVal,RO.run,h1,h1',h2,h3,ansS,tokA,tokC,hx]
   ·simp[B.lex_numeral_answer,go_sem,NO.run,WO.run,wr_tok,rd_tok,fresults,resVals,resVal,RO.run,h1,h1',h2,h3,ansS,tokA,tokC,hx]
theorem u8_ne {c d:UInt8} (h:¬c=d) {n:Int} (hn:(d.toNat:Int)=n):¬(c.toNat:Int)=n:=fun e=>h (UInt8.toNat_inj.1 (by omega))
def begins (d:UInt8):List UInt8→Bool
 | []=>false
 | c::_=>decide (c=d)
theorem prefix1_tells (H:B.H_strings_HasPrefix T) (hwf:st.Wf) {s:List UInt8} {d:UInt8} (hs:s.length<9223372036854775807):Tells T st (.fn 94 [] []) [.str s,.str [d]] (.bool (begins d s)):=by
 refine tells_of H.e H.f rfl ?_
 simp[B.strings_HasPrefix,go_sem]
 have:Tells T st (.fn 123 [] []) [.str s,.str [d]] (.bool (begins d s)):=by
  refine tells_of H.stringslite_HasPrefix.e H.stringslite_HasPrefix.f rfl ?_
  cases s with
  | nil=>simp[B.stringslite_HasPrefix,go_sem,begins,Ext.refl hwf]
  | cons c r=>
    have h1:(1:Int)≤r.length+1:=by omega
    have hq:asubS (c::r) none (some (.int .i64 1))=some (.str [c]):=by
     rw[asubS_to (by omega) (by simp;omega)];rfl
    simp[B.stringslite_HasPrefix,go_sem,begins,h1,hq,seq8,Ext.refl hwf]
    exact UInt8.toNat_inj
 refine this.use fun s1 hs1=> ?_
 simp[go_sem,hs1]
def unsign:List UInt8→List UInt8×Int
 | 45::r=>(r, -1)
 | 43::r=>(r,1)
 | s=>(s,1)
def wholeS (s:List UInt8):AV:=
 if(cntS 10 (unsign s).1).2=true then ansS ((unsign s).2*(cntS 10 (unsign s).1).1) s.length else tokA 0 0 [] 5
theorem cntS_le (base:Int) (s:List UInt8):(cntS base s).1≤1099511627776:=by
 have:∀(s:List UInt8) (v n:Nat),v≤1099511627776→cntFrom 1099511627776 base v s=some n→n≤1099511627776:=by
  intro s
  induction s with
  | nil=>intro v n hv h;simp only[cntFrom,Option.some.injEq]at h;omega
  | cons c r ih=>
    intro v n hv h
    simp only[cntFrom]at h
    split at h
    ·cases h
    ·exact ih _ _ (by omega) h
 unfold cntS
 split
 ·rename_i n h;exact this s 0 n (by omega) h
 ·simp
theorem whole_tells (H:B.H_lex_numeral_whole T) (hwf:st.Wf) {s:List UInt8} (hs:s.length<9223372036854775807):Tells T st (.fn 75 [] []) [.str s] (wholeS s):=by
 refine tells_of H.e H.f rfl ?_
 have hx:=Ext.new hwf (.cells 134 true [.int .i64 0,.int .i64 0,.str []])
 have hg:hget ((st.nx,AObj.cells 134 true [.int .i64 0,.int .i64 0,.str []])::st.h) st.nx=some (.cells 134 true [.int .i64 0,.int .i64 0,.str []]):=by simp[hget_cons]
 simp[B.lex_numeral_whole,go_sem,NO.run]
 refine(prefix1_tells H.strings_HasPrefix hx.wf hs).use fun s1 hs1=> ?_
 have hg1:=hs1.get hx.wf hg
 have e1:=hx.trans hs1
 have hcnt:=fun(t:List UInt8) (ht:t.length≤s.length)=>count_tells H.lex_count e1.wf (s:=t) (by omega) (base:=10) (by omega) (by omega)
 have fin:∀(t:List UInt8) (sg:Int),(sg=1∨sg= -1)→unsign s=(t,sg)→t.length≤s.length→(∀{Q:AV→St→Prop},(∀s2,Ext s1 s2→Q (.tuple [.int .i64 (cntS 10 t).1,.bool (cntS 10 t).2]) s2)→CRes (call T (.fn 95 [] []) [.str t,.int .i64 10] s1) Q)∧
   IntKind.i64.wrap (sg*(cntS 10 t).1)=sg*(cntS 10 t).1:=by
  intro t sg h1 h2 h3
  have:=cntS_le 10 t
  refine⟨fun hQ=>(hcnt t h3).use hQ,?_⟩
  rcases h1 with rfl | rfl
  ·rw[Int.one_mul];exact wrap64' (by omega) (by omega)
  ·exact wrap64' (by omega) (by omega)
 have tail:∀(t:List UInt8) (sg:Int) (s2:St),unsign s=(t,sg)→Ext s1 s2→hget s2.h st.nx=some (.cells 134 true [.int .i64 0,.int .i64 0,.str []])∧Ext st s2∧
   (∀{Q:AV→St→Prop},(∀s3,Ext s2 s3→Q (ansS (sg*(cntS 10 t).1) s.length) s3)→CRes (call T (.fn 96 [] []) [.str s,.int .i64 (sg*(cntS 10 t).1)] s2) Q)∧
   wholeS s=(if(cntS 10 t).2=true then ansS (sg*(cntS 10 t).1) s.length else tokA 0 0 [] 5):=by
  intro t sg s2 h1 h2
  exact⟨h2.get e1.wf hg1,e1.trans h2,fun hQ=>(answer_tells H.lex_numeral_answer h2.wf).use hQ,by simp only[wholeS,h1]⟩
 have ansC:∀n k,∃a b c e,ansS n k= .tuple [.agg [.int .i64 a,.int .i64 b,.str c],.int .i64 e]:=by
  intro n k
  unfold ansS
  split <;> exact⟨_,_,_,_,rfl⟩
 match s,hs with
 | [],_=>
   obtain⟨f1,f2⟩:=fin [] 1 (.inl rfl) rfl (by simp)
   simp[go_sem,begins,seq8]
   refine f1 fun s2 hs2=> ?_
   obtain⟨t1,t2,t3,t4⟩:=tail [] 1 s2 rfl hs2
   simp[go_sem,cntS,cntFrom,tok_wr t1,WO.run,fresults,resVals,resVal,RO.run,tok_rd (hget_hset_self t1),t4,tokA,tokC]
   exact t2.setNew t1 (Nat.le_refl _)
 | c::r,hs=>
   have hsub:asubS (c::r) (some (.int .i64 1)) none=some (.str r):=by rw[asubS_from (by omega) (by simp;omega)];rfl
   have done':∀(t:List UInt8) (sg:Int) (s2:St),unsign (c::r)=(t,sg)→Ext s1 s2→(cntS 10 t).2=true→∀(Q:AV→St→Prop),(∀a b d e s3,ansS (sg*(cntS 10 t).1) (r.length+1)= .tuple [.agg [.int .i64 a,.int .i64 b,.str d],.int .i64 e]→
     hget s3.h st.nx=some (.cells 134 true [.int .i64 0,.int .i64 0,.str []])→Ext st s3→Q (.tuple [.agg [.int .i64 a,.int .i64 b,.str d],.int .i64 e]) s3)→CRes (call T (.fn 96 [] []) [.str (c::r),.int .i64 (sg*(cntS 10 t).1)] s2) Q:=by
    intro t sg s2 h1 h2 h3 Q hQ
    obtain⟨t1,t2,t3,t4⟩:=tail t sg s2 h1 h2
    obtain⟨a,b,d,e,h4⟩:=ansC (sg*(cntS 10 t).1) (r.length+1)
    refine t3 fun s3 hs3=> ?_
    simp only[List.length_cons,h4]
    exact hQ a b d e s3 h4 (hs3.get t2.wf t1) (t2.trans hs3)
   by_cases h45:c=45
   ·subst h45
    obtain⟨f1,f2⟩:=fin r (-1) (.inr rfl) rfl (by simp)
    simp[go_sem,begins,seq8,hsub]
    refine f1 fun s2 hs2=> ?_
    obtain⟨t1,t2,t3,t4⟩:=tail r (-1) s2 rfl hs2
    cases hc:(cntS 10 r).2 with
    | false=>
      simp[go_sem,hc,tok_wr t1,WO.run,fresults,resVals,resVal,RO.run,tok_rd (hget_hset_self t1),t4,tokA,tokC]
      exact t2.setNew t1 (Nat.le_refl _)
    | true=>
      simp only[Int.neg_one_mul]at f2
      simp[go_sem,hc,f2]
      have hd:=done' r (-1) s2 rfl hs2 hc
      simp only[Int.neg_one_mul]at hd
      refine hd _ fun a b d e s3 h4 h5 h6=> ?_
      rw[Int.neg_one_mul]at t4
      simp[go_sem,tok_wr h5,WO.run,fresults,resVals,resVal,RO.run,tok_rd (hget_hset_self h5),t4,hc,h4]
      exact h6.setNew h5 (Nat.le_refl _)
   ·have h45i:¬(c.toNat:Int)=45:=u8_ne h45 rfl
    by_cases h43:c=43
    ·subst h43
     obtain⟨f1,f2⟩:=fin r 1 (.inl rfl) rfl (by simp)
     simp[go_sem,begins,seq8,hsub]
     refine f1 fun s2 hs2=> ?_
     obtain⟨t1,t2,t3,t4⟩:=tail r 1 s2 rfl hs2
     cases hc:(cntS 10 r).2 with
     | false=>
       simp[go_sem,hc,tok_wr t1,WO.run,fresults,resVals,resVal,RO.run,tok_rd (hget_hset_self t1),t4,tokA,tokC]
       exact t2.setNew t1 (Nat.le_refl _)
     | true=>
       simp only[Int.one_mul]at f2
       simp[go_sem,hc,f2]
       have hd:=done' r 1 s2 rfl hs2 hc
       simp only[Int.one_mul]at hd
       refine hd _ fun a b d e s3 h4 h5 h6=> ?_
       rw[Int.one_mul]at t4
       simp[go_sem,tok_wr h5,WO.run,fresults,resVals,resVal,RO.run,tok_rd (hget_hset_self h5),t4,hc,h4]
       exact h6.setNew h5 (Nat.le_refl _)
    ·have h43i:¬(c.toNat:Int)=43:=u8_ne h43 rfl
     have hu:unsign (c::r)=(c::r,1):=by
      unfold unsign
      split
      ·rename_i h;cases h;exact absurd rfl h45
      ·rename_i h;cases h;exact absurd rfl h43
      ·rfl
     obtain⟨f1,f2⟩:=fin (c::r) 1 (.inl rfl) hu (by simp)
     simp[go_sem,begins,seq8,hsub,h45,h45i,h43i]
     refine f1 fun s2 hs2=> ?_
     obtain⟨t1,t2,t3,t4⟩:=tail (c::r) 1 s2 hu hs2
     cases hc:(cntS 10 (c::r)).2 with
     | false=>
       simp[go_sem,hc,tok_wr t1,WO.run,fresults,resVals,resVal,RO.run,tok_rd (hget_hset_self t1),t4,tokA,tokC]
       exact t2.setNew t1 (Nat.le_refl _)
     | true=>
       simp only[Int.one_mul]at f2
       simp[go_sem,hc,f2]
       have hd:=done' (c::r) 1 s2 hu hs2 hc
       simp only[Int.one_mul]at hd
       refine hd _ fun a b d e s3 h4 h5 h6=> ?_
       rw[Int.one_mul]at t4
       simp[go_sem,tok_wr h5,WO.run,fresults,resVals,resVal,RO.run,tok_rd (hget_hset_self h5),t4,hc,h4]
       exact h6.setNew h5 (Nat.le_refl _)
end Go.Ev

/- Radix texts. -/
namespace Go.Ev
open Go
variable {T : Tab} {st : St}
def cutS (d:UInt8) (s:List UInt8):List UInt8×List UInt8×Bool:=
 if 0≤Lib.indexByte s d then(s.take (Lib.indexByte s d).toNat,s.drop ((Lib.indexByte s d).toNat+1),true)else(s,[],false)
theorem indexByte_lt':∀(s:List UInt8) (d:UInt8),Lib.indexByte s d<s.length
 | [],_=>by simp[Lib.indexByte]
 | c::r,d=>by
   have:=indexByte_lt' r d
   simp only[Lib.indexByte,List.length_cons]
   split
   ·omega
   ·split <;> omega
theorem cut_tells (H:B.H_strings_Cut T) (hwf:st.Wf) {s:List UInt8} {d:UInt8} (hs:s.length<9223372036854775806):
  Tells T st (.fn 97 [] []) [.str s,.str [d]] (.tuple [.str (cutS d s).1,.str (cutS d s).2.1,.bool (cutS d s).2.2]):=by
 refine tells_of H.e H.f rfl ?_
 have:∀st:St,st.Wf→Tells T st (.fn 140 [] []) [.str s,.str [d]] (.tuple [.str (cutS d s).1,.str (cutS d s).2.1,.bool (cutS d s).2.2]):=by
  intro st hwf
  refine tells_of H.stringslite_Cut.e H.stringslite_Cut.f rfl ?_
  have hlt:=indexByte_lt' s d
  have hi:=fun st=>index1_call (st:=st) H.stringslite_Cut.stringslite_Index (s:=s) (c:=d)
  by_cases h:0≤Lib.indexByte s d
  ·have h1:=asubS_to (s:=s) (j:=Lib.indexByte s d) (k:= .i64) h (by omega)
   have h2:=asubS_from (s:=s) (i:=Lib.indexByte s d+1) (k:= .i64) (by omega) (by omega)
   have h3:(Lib.indexByte s d+1).toNat=(Lib.indexByte s d).toNat+1:=by omega
   have h4:IntKind.i64.wrap (Lib.indexByte s d+1)=Lib.indexByte s d+1:=wrap64' (by omega) (by omega)
   simp[B.stringslite_Cut,go_sem,hi,h,h1,h2,h4,cutS,h3,Ext.aside hwf]
  ·simp[B.stringslite_Cut,go_sem,hi,h,cutS,Ext.refl hwf]
 simp[B.strings_Cut,go_sem]
 refine(this st hwf).use fun s1 hs1=> ?_
 simp[go_sem,hs1]
def radixS (s:List UInt8):AV:=
 if(cutS 35 s).2.2=false∨(cntS 10 (cutS 35 s).1).2=false∨2<(cutS 35 s).1.length∨(cntS 10 (cutS 35 s).1).1<2∨36<(cntS 10 (cutS 35 s).1).1 then tokA 0 0 [] 5
 else if(cntS (cntS 10 (cutS 35 s).1).1 (cutS 35 s).2.1).2=true then ansS (cntS (cntS 10 (cutS 35 s).1).1 (cutS 35 s).2.1).1 s.length
 else tokA 0 0 [] 5
theorem ansC (n:Int) (k:Nat):∃a b c e,ansS n k= .tuple [.agg [.int .i64 a,.int .i64 b,.str c],.int .i64 e]:=by
 unfold ansS
 split <;> exact⟨_,_,_,_,rfl⟩
theorem cutS_le (d:UInt8) (s:List UInt8):(cutS d s).1.length≤s.length∧(cutS d s).2.1.length≤s.length:=by
 unfold cutS
 split <;> simp <;> omega
theorem radix_tells (H:B.H_lex_numeral_radix T) (hwf:st.Wf) {s:List UInt8} (hs:s.length<9223372036854775806):Tells T st (.fn 76 [] []) [.str s] (radixS s):=by
 refine tells_of H.e H.f rfl ?_
 have hx:=Ext.new hwf (.cells 134 true [.int .i64 0,.int .i64 0,.str []])
 have hg:hget ((st.nx,AObj.cells 134 true [.int .i64 0,.int .i64 0,.str []])::st.h) st.nx=some (.cells 134 true [.int .i64 0,.int .i64 0,.str []]):=by simp[hget_cons]
 obtain⟨l1,l2⟩:=cutS_le 35 s
 simp[B.lex_numeral_radix,go_sem,NO.run]
 refine(cut_tells H.strings_Cut hx.wf hs).use fun s1 hs1=> ?_
 have e1:=hx.trans hs1
 generalize hF:(cutS 35 s).1=F at*
 generalize hR:(cutS 35 s).2.1=R at*
 generalize hI:(cutS 35 s).2.2=I at*
 simp[go_sem]
 refine(count_tells H.lex_count e1.wf (s:=F) (by omega) (base:=10) (by omega) (by omega)).use fun s2 hs2=> ?_
 have e2:=e1.trans hs2
 have g2:=(hs1.trans hs2).get hx.wf hg
 obtain⟨b,hb⟩:∃b,b=(cntS 10 F).1:=⟨_,rfl⟩
 obtain⟨ok,hok⟩:∃ok,ok=(cntS 10 F).2:=⟨_,rfl⟩
 have hdef:radixS s=(if I=false∨ok=false∨2<F.length∨b<2∨36<b then tokA 0 0 [] 5 else if(cntS b R).2=true then ansS (cntS b R).1 s.length else tokA 0 0 [] 5):=by
  simp only[radixS,hF,hR,hI,←hb,←hok]
 simp only[←hb,←hok]
 clear hb hok hF hR hI
 have bad:∀e:Env,True:=fun _=>trivial
 cases I with
 | false=>
   simp[go_sem,tok_wr g2,WO.run,fresults,resVals,resVal,RO.run,tok_rd (hget_hset_self g2),hdef,tokA,tokC]
   exact e2.setNew g2 (Nat.le_refl _)
 | true=>
 cases ok with
 | false=>
   simp[go_sem,tok_wr g2,WO.run,fresults,resVals,resVal,RO.run,tok_rd (hget_hset_self g2),hdef,tokA,tokC]
   exact e2.setNew g2 (Nat.le_refl _)
 | true=>
 by_cases c1:2<F.length
 ·have c1':(2:Int)<F.length:=by omega
  simp[go_sem,c1,c1',tok_wr g2,WO.run,fresults,resVals,resVal,RO.run,tok_rd (hget_hset_self g2),hdef,tokA,tokC]
  exact e2.setNew g2 (Nat.le_refl _)
 ·have c1':¬(2:Int)<F.length:=by omega
  by_cases c2:b<2
  ·have c2':(b:Int)<2:=by omega
   simp[go_sem,c1,c1',c2,c2',tok_wr g2,WO.run,fresults,resVals,resVal,RO.run,tok_rd (hget_hset_self g2),hdef,tokA,tokC]
   exact e2.setNew g2 (Nat.le_refl _)
  ·have c2':¬(b:Int)<2:=by omega
   by_cases c3:36<b
   ·have c3':(36:Int)<b:=by omega
    simp[go_sem,c1,c1',c2,c2',c3,c3',tok_wr g2,WO.run,fresults,resVals,resVal,RO.run,tok_rd (hget_hset_self g2),hdef,tokA,tokC]
    exact e2.setNew g2 (Nat.le_refl _)
   ·have c3':¬(36:Int)<b:=by omega
    simp[go_sem,c1,c1',c2,c2',c3,c3']
    refine(count_tells H.lex_count e2.wf (s:=R) (by omega) (base:=b) (by omega) (by omega)).use fun s3 hs3=> ?_
    have e3:=e2.trans hs3
    have g3:=hs3.get e2.wf g2
    cases hc:(cntS b R).2 with
    | false=>
      simp[go_sem,hc,c1,c2,c3,tok_wr g3,WO.run,fresults,resVals,resVal,RO.run,tok_rd (hget_hset_self g3),hdef,tokA,tokC]
      exact e3.setNew g3 (Nat.le_refl _)
    | true=>
      simp[go_sem,hc]
      refine(answer_tells H.lex_numeral_answer e3.wf).use fun s4 hs4=> ?_
      have e4:=e3.trans hs4
      have g4:=hs4.get e3.wf g3
      obtain⟨a1,a2,a3,a4,h4⟩:=ansC (cntS b R).1 s.length
      simp[go_sem,hc,c1,c2,c3,h4,tok_wr g4,WO.run,fresults,resVals,resVal,RO.run,tok_rd (hget_hset_self g4),hdef,tokA,tokC]
      exact e4.setNew g4 (Nat.le_refl _)
end Go.Ev

/- Slices by what they hold, whatever their block is called. -/
namespace Go.Ev
open Go
variable {T : Tab} {st : St}
def AV.nms:AV→List Nat
 | .slice n _ _ _=>[n]
 | _=>[]
def Sl (s:St) (v:AV) (ty es k:Nat) (cs:List AV):Prop:=∃n,SlAt s.h v n ty es k cs
def Rd (h:Heap) (v:AV) (es k:Nat) (cs:List AV):Prop:=(v= .nilslice∧k=0∧cs=[])∨∃n off cp,v= .slice n off k cp∧rdCells h n off (k*es)=some cs
def Mine (S:List Nat) (st:St) (v:AV):Prop:=∀n∈v.nms,n∈S∨st.nx≤n
theorem Sl.nil (s:St) (ty es:Nat):Sl s .nilslice ty es 0 []:=⟨0,.nil rfl rfl rfl⟩
theorem Mine.nil (S:List Nat) (s:St):Mine S s .nilslice:=fun n h=>by cases h
theorem rdCells_len {h:Heap} {n off c:Nat} {cs:List AV} (a:rdCells h n off c=some cs):cs.length=c:=by
 unfold rdCells at a
 split at a
 all_goals
  first
  | (split at a
     ·injection a with a;rw[←a];simp;omega
     ·cases a)
  | cases a
theorem rdCells_get {h:Heap} {n off c i:Nat} {cs:List AV} (a:rdCells h n off c=some cs) (hi:i<c):rdCell h n (off+i)=cs[i]? :=by
 unfold rdCells at a
 unfold rdCell
 split at a
 all_goals
  first
  | (split at a
     ·injection a with a;rw[←a];simp[hi]
     ·cases a)
  | cases a
theorem rdCells_some {h:Heap} {n off c:Nat} {cs:List AV} (a:rdCells h n off c=some cs):∃o,hget h n=some o:=by
 unfold rdCells at a
 split at a
 ·exact⟨_,by assumption⟩
 ·exact⟨_,by assumption⟩
 ·exact⟨_,by assumption⟩
 ·exact⟨_,by assumption⟩
 ·cases a
theorem Rd.len {h:Heap} {v:AV} {es k:Nat} {cs:List AV} (a:Rd h v es k cs):cs.length=k*es:=by
 rcases a with ⟨_,h2,h3⟩ | ⟨n,off,cp,_,h2⟩
 ·subst h2;subst h3;simp
 ·exact rdCells_len h2
theorem Rd.src {h:Heap} {v:AV} {es k:Nat} {cs:List AV} (a:Rd h v es k cs):srcCells h es v=some (k,cs):=by
 rcases a with ⟨h1,h2,h3⟩ | ⟨n,off,cp,h1,h2⟩
 ·subst h1;subst h2;subst h3;rfl
 ·subst h1;simp only[srcCells,h2,Option.map_some]
theorem Rd.frm {st st':St} {v:AV} {es k:Nat} {cs:List AV} {S:List Nat} (a:Rd st.h v es k cs) (f:Frm S st st') (hw:st.Wf) (hn:∀n∈v.nms,n∉S):Rd st'.h v es k cs:=by
 rcases a with ⟨h1,h2,h3⟩ | ⟨n,off,cp,h1,h2⟩
 ·exact .inl ⟨h1,h2,h3⟩
 ·refine .inr ⟨n,off,cp,h1,?_⟩
  obtain⟨o,ho⟩:=rdCells_some h2
  have:=f.get hw ho (hn n (by simp[h1,AV.nms]))
  unfold rdCells at h2⊢
  rw[ho]at h2
  rw[this]
  exact h2
theorem Rd.ext {st st':St} {v:AV} {es k:Nat} {cs:List AV} (a:Rd st.h v es k cs) (f:Ext st st') (hw:st.Wf):Rd st'.h v es k cs:=a.frm (f.fr []) hw (by simp)
theorem SlAt.rd' {h:Heap} {v:AV} {n ty es k:Nat} {cs:List AV} (a:SlAt h v n ty es k cs):Rd h v es k cs:=by
 rcases a with ⟨h1,h2,h3⟩ | ⟨h1,h2,h3⟩ | ⟨ty',h1,h2,h3⟩
 ·exact .inl ⟨h1,h3,h2⟩
 ·refine .inr ⟨n,0,_,h1,?_⟩
  simp only[rdCells,h2]
  rw[if_pos (by omega),List.drop_zero,List.take_of_length_le (by omega)]
 ·exact .inr ⟨n,0,_,h1,rd_all h2 h3⟩
theorem Sl.rd {s:St} {v:AV} {ty es k:Nat} {cs:List AV} (a:Sl s v ty es k cs):Rd s.h v es k cs:=by
 obtain⟨n,a⟩:=a;exact a.rd'
theorem SlAt.frm' {st st':St} {v:AV} {n ty es k:Nat} {cs:List AV} {S:List Nat} (a:SlAt st.h v n ty es k cs) (f:Frm S st st') (hw:st.Wf) (hn:∀n∈v.nms,n∉S):SlAt st'.h v n ty es k cs:=by
 rcases a with ⟨h1,h2,h3⟩ | ⟨h1,h2,h3⟩ | ⟨ty',h1,h2,h3⟩
 ·exact .nil h1 h2 h3
 ·exact .buf h1 (f.get hw h2 (hn n (by simp[h1,AV.nms]))) h3
 ·exact .made ty' h1 (f.get hw h2 (hn n (by simp[h1,AV.nms]))) h3
theorem Sl.frm {st st':St} {v:AV} {ty es k:Nat} {cs:List AV} {S:List Nat} (a:Sl st v ty es k cs) (f:Frm S st st') (hw:st.Wf) (hn:∀n∈v.nms,n∉S):Sl st' v ty es k cs:=by
 obtain⟨n,a⟩:=a;exact⟨n,a.frm' f hw hn⟩
theorem Sl.ext {st st':St} {v:AV} {ty es k:Nat} {cs:List AV} (a:Sl st v ty es k cs) (f:Ext st st') (hw:st.Wf):Sl st' v ty es k cs:=a.frm (f.fr []) hw (by simp)
theorem Sl.dropLoc {v:AV} {ty es k c:Nat} {cs:List AV} (hwf:st.Wf) (a:Sl st v ty es k cs):Sl ⟨Go.Ev.dropLoc c st.h,st.nx⟩ v ty es k cs:=by
 obtain⟨n,a⟩:=a;exact⟨n,a.dropLoc hwf⟩
theorem Sl.append {st0:St} {S:List Nat} (hF:Frm S st0 st) {v x:AV} {ty es k j b:Nat} {cs new:List AV} (hv:Mine S st0 v) (a:Sl st v ty es k cs) (hx:Rd st.h x es j new) (hsc:new.all AV.sc=true)
  (hb:(k+j)*b≤35184372088832) (hb':k+j≤35184372088832) (hm:0<j∨∀n c,v≠.slice n 0 k (.known c)):
  CRes (aappend ty es b st v x) fun v' s=>Sl s v' ty es (k+j) (cs++new)∧Frm S st0 s∧Mine S st0 v'∧Frm v.nms st s:=by
 obtain⟨n,a⟩:=a
 cases hv0:v with
 | slice m o l c=>
   have hmn:n=m:=by
    rcases a with ⟨h1,h2,h3⟩ | ⟨h1,h2,h3⟩ | ⟨ty',h1,h2,h3⟩ <;> rw[hv0]at h1 <;> simp at h1 <;> first | exact h1.1.symm | exact h1.symm
   subst hmn
   rw[←hv0]
   refine(a.append hF.wf hx.src hx.len hsc hb hb' ?_).mono ?_
   ·rcases hm with h | h
    ·exact .inl h
    ·exact .inr (fun⟨c,hc⟩=>h _ _ hc)
   ·rintro v' s ⟨n',hs,hf,hn,_⟩
    have hfs:Frm v.nms st s:=by rw[hv0];exact hf
    refine⟨⟨n',hs⟩,hF.trans hfs hv,?_,hfs⟩
    intro k hk
    have hk':k=n':=by
     rcases hs with ⟨h1,h2,h3⟩ | ⟨h1,h2,h3⟩ | ⟨ty',h1,h2,h3⟩ <;> rw[h1]at hk <;> simp[AV.nms]at hk <;> exact hk
    subst hk'
    rcases hn with h | h
    ·subst h;exact hv _ (by simp[hv0,AV.nms])
    ·exact .inr (Nat.le_trans hF.nx h)
 | nilslice=>
   have hk0:k=0∧cs=[]:=by
    rcases a with ⟨h1,h2,h3⟩ | ⟨h1,h2,h3⟩ | ⟨ty',h1,h2,h3⟩
    ·exact⟨h3,h2⟩
    ·rw[hv0]at h1;cases h1
    ·rw[hv0]at h1;cases h1
   obtain⟨rfl,rfl⟩:=hk0
   unfold aappend
   rw[hx.src]
   simp only[Nat.zero_add]at hb hb'⊢
   by_cases hj0:j=0
   ·rw[if_pos hj0]
    refine⟨?_,hF,Mine.nil _ _,Frm.refl hF.wf _⟩
    have:new=[]:=List.length_eq_zero_iff.1 (by rw[hx.len,hj0];simp)
    subst this;subst hj0
    exact .nil _ _ _
   ·rw[if_neg hj0,if_pos ⟨hb,hb'⟩]
    refine⟨⟨st.nx,.buf rfl (by simp[hget]) (by simpa using hx.len)⟩,hF.trans ((Ext.new hF.wf _).fr []) (by simp),?_,(Ext.new hF.wf _).fr _⟩
    intro n hn
    simp[AV.nms]at hn
    subst hn
    exact .inr hF.nx
 | _=>
   rcases a with ⟨h1,h2,h3⟩ | ⟨h1,h2,h3⟩ | ⟨ty',h1,h2,h3⟩ <;> rw[hv0]at h1 <;> cases h1
theorem Sl.push {st0:St} {S:List Nat} (hF:Frm S st0 st) {v y:AV} {ty k b:Nat} {cs:List AV} {Q:AV→St→Prop} (hv:Mine S st0 v) (a:Sl st v ty 1 k cs) (hsc:y.sc=true) (hb:(k+1)*b≤35184372088832) (hb':k+1≤35184372088832)
  (hq:∀v' s,Sl s v' ty 1 (k+1) (cs++[y])→Frm S st0 s→Mine S st0 v'→Frm v.nms st s→Q v' s):
  CRes (aappend ty 1 b ⟨(st.nx,.cells ty false [y])::st.h,st.nx+1⟩ v (.slice st.nx 0 1 (.known 1))) Q:=by
 have hx:=Ext.new hF.wf (.cells ty false [y])
 refine(Sl.append (j:=1) (new:=[y]) (hF.trans (hx.fr []) (by simp)) hv (a.ext hx hF.wf) (.inr ⟨_,_,_,rfl,?_⟩) (by simp[hsc]) hb hb' (.inl (by omega))).mono ?_
 ·exact rd_all (ty:=ty) (l:=false) (by simp[hget]) rfl
 ·rintro v' s ⟨h1,h2,h3,h4⟩
  exact hq v' s h1 h2 h3 ((hx.fr v.nms).trans h4 (fun n h=> .inl h))
end Go.Ev

/- Bits and octets: plain laws. -/
namespace Go.Ev
open Go
theorem ofInt_ofNat (k n:Nat):BitVec.ofInt k (n:Int)=BitVec.ofNat k n:=BitVec.ofInt_natCast k n
theorem ishr_nat {k:IntKind} {a:Int} {b:Nat} (h0:0≤a) (hb:b≤k.bits):ishr k a (b:Int)=a / 2 ^ b:=by
 unfold ishr
 rw[Int.toNat_natCast,Nat.min_eq_left hb,Int.fdiv_eq_ediv_of_nonneg _ (Int.natCast_nonneg _)]
 push_cast;rfl
theorem wrap_u8 {a:Int} (h0:0≤a) (h1:a<256):IntKind.u8.wrap a=a:=by
 simp[IntKind.wrap,IntKind.signed,IntKind.bits];omega
end Go.Ev

/- The scanner of decimals. -/
namespace Go.Ev
open Go
variable {T : Tab} {st : St}
def ScnAt (s':St) (q:Nat) (s:List UInt8) (k:Nat):Prop:=hget s'.h q=some (.cells 187 false [.str s,.int .i64 k])
theorem ScnAt.r0 {s':St} {q k:Nat} {s:List UInt8} (h:ScnAt s' q s k):rdCell s'.h q 0=some (.str s):=by unfold ScnAt at h;simp[rdCell,h]
theorem ScnAt.r1 {s':St} {q k:Nat} {s:List UInt8} (h:ScnAt s' q s k):rdCell s'.h q 1=some (.int .i64 k):=by unfold ScnAt at h;simp[rdCell,h]
theorem ScnAt.w1 {s':St} {q k:Nat} {s:List UInt8} {n:Int} (h:ScnAt s' q s k):wrCells s'.h q 1 [.int .i64 n]=some (hset s'.h q (.cells 187 false [.str s,.int .i64 n])):=wr_cells h rfl (by simp)
theorem ScnAt.ext {s1 s2:St} {q k:Nat} {s:List UInt8} (h:ScnAt s1 q s k) (hw:s1.Wf) (x:Ext s1 s2):ScnAt s2 q s k:=x.get hw h
def oneB (set:List UInt8):List UInt8→Bool
 | []=>false
 | c::_=>decide (c∈set)
theorem one_loop (H:B.H_real_scanner_one T) {q k:Nat} {s set:List UInt8} {c:UInt8} (hk:k<9223372036854775806) (hc:s[k]? =some c) (hset':set.length<9223372036854775806):
  ∀(m i:Nat) (e:Env) (st1:St),i+m=set.length→st1.Wf→ScnAt st1 q s k→eget e 0= .ptr q 0→eget e 1= .str set→eget e 19= .int .i64 set.length→eget e 20= .int .i64 i→
  Res (run T (.loop B.real_scanner_one_l0) e st1) fun x e' s'=>(x= .exit 0∧Ext st1 s'∧¬c∈set.drop i)∨(x= .ret∧eget e' 4= .bool true∧Frm [q] st1 s'∧ScnAt s' q s (k+1)∧c∈set.drop i):=by
 intro m
 induction m with
 | zero=>
   intro i e st1 hi hw hq g0 g1 g19 g20
   have hil:i=set.length:=by omega
   subst hil
   rw[run_loop]
   simp[B.real_scanner_one_l0,go_sem,g0,g1,g19,g20,Ext.refl hw]
 | succ m ih=>
   intro i e st1 hi hw hq g0 g1 g19 g20
   have hil:i<set.length:=by omega
   have hil':(i:Int)<set.length:=by omega
   obtain⟨d,hd,hdr⟩:=idx_some hil
   have r0:=hq.r0
   have r1:=hq.r1
   have x1:=Ext.aside hw 15
   have hq1:ScnAt ⟨st1.h,st1.nx+15⟩ q s k:=hq
   rw[run_loop]
   by_cases hcd:c=d
   ·subst hcd
    have hw1:=hq.w1 (n:=(k:Int)+1)
    have hwk:IntKind.i64.wrap ((k:Int)+1)=(k:Int)+1:=wrap64' (by omega) (by omega)
    simp[B.real_scanner_one_l0,go_sem,g0,g1,g19,g20,hil',RO.run,WO.run,r0,r1,hc,hd,hwk,hw1,hdr]
    refine⟨?_,?_⟩
    ·exact(x1.fr [q]).trans (Frm.set (st:=⟨_,_⟩) x1.wf hq1) (by simp)
    ·exact hget_hset_self hq1
   ·have hne:¬(c.toNat:Int)=d.toNat:=u8_ne hcd rfl
    have hne':¬c.toNat=d.toNat:=fun e=>hcd (UInt8.toNat_inj.1 e)
    simp[B.real_scanner_one_l0,go_sem,g0,g1,g19,g20,hil',RO.run,r0,r1,hc,hd,hne,hne',hcd,hdr]
    refine(ih (i+1) _ _ (by omega) x1.wf hq1 ?_ ?_ ?_ ?_).mono ?_
    ·simp[go_sem]
    ·simp[go_sem]
    ·simp[go_sem]
    ·simp[go_sem];rw[wrap64' (by omega) (by omega)]
    ·rintro x e' s' (⟨rfl,h1,h2⟩ | ⟨rfl,h1,h2,h3,h4⟩)
     ·exact .inl ⟨rfl,x1.trans h1,h2⟩
     ·exact .inr ⟨rfl,h1,(x1.fr [q]).trans h2 (by simp),h3,h4⟩
theorem one_res (H:B.H_real_scanner_one T) (hwf:st.Wf) {q k:Nat} {s set:List UInt8} (hs:s.length<9223372036854775806) (hk:k≤s.length) (hset':set.length<9223372036854775806) (hq:ScnAt st q s k):
  CRes (call T (.fn 120 [.ptr q 0] []) [.str set] st) fun v s'=>v= .bool (oneB set (s.drop k))∧Frm [q] st s'∧ScnAt s' q s (if oneB set (s.drop k)=true then k+1 else k):=by
 refine call_res H.e H.f rfl ?_
 have r0:=hq.r0
 have r1:=hq.r1
 have x1:=Ext.aside hwf 12
 have hqn:q<st.nx:=hwf.lt _ _ hq
 by_cases hkl:k=s.length
 ·subst hkl
  simp[B.real_scanner_one,go_sem,RO.run,r0,r1,oneB]
  refine⟨(x1.dropLoc).fr _,?_⟩
  exact hget_dropLoc_keep hwf hq rfl
 ·have hkl':¬(k:Int)=s.length:=by omega
  obtain⟨c,hc,hd⟩:=idx_some (s:=s) (i:=k) (by omega)
  simp[B.real_scanner_one,go_sem,RO.run,r0,r1,hkl',hkl]
  refine(one_loop H (q:=q) (s:=s) (set:=set) (by omega) hc hset' set.length 0 _ _ (by simp) x1.wf (show ScnAt ⟨st.h,st.nx+12⟩ q s k from hq) ?_ ?_ ?_ ?_).mono ?_
  ·simp[go_sem]
  ·simp[go_sem]
  ·simp[go_sem]
  ·simp[go_sem]
  ·rintro x e' s' (⟨rfl,h1,h2⟩ | ⟨rfl,h1,h2,h3,h4⟩)
   ·rw[List.drop_zero]at h2
    simp[go_sem,hd,oneB,h2]
    have y:=x1.trans h1
    exact⟨(y.dropLoc).fr _,hget_dropLoc_keep y.wf (h1.get x1.wf hq) rfl⟩
   ·rw[List.drop_zero]at h4
    simp[go_sem,hd,oneB,h4,h1]
    have y:=(x1.fr [q]).trans h2 (by simp)
    exact⟨y.dropLoc,hget_dropLoc_keep y.wf h3 rfl⟩
def spanD:List UInt8→List Nat×List UInt8
 | []=>([],[])
 | c::r=>if 48≤c.toNat∧c.toNat≤57 then((c.toNat - 48)::(spanD r).1,(spanD r).2)else([],c::r)
def ten:List UInt8:=[48,49,50,51,52,53,54,55,56,57]
theorem mem_ten (c:UInt8):c∈ten↔48≤c.toNat∧c.toNat≤57:=by
 have h:(List.range 256).all (fun n=>decide (UInt8.ofNat n∈ten) == decide (48≤n∧n≤57))=true:=by kernel_rfl
 have:=all_octets h c
 simp only[UInt8.ofNat_toNat,beq_iff_eq,decide_eq_decide]at this
 exact this
def octs (l:List Nat):List AV:=l.map fun n=> .int .u8 ((n:Nat):Int)
theorem octs_len (l:List Nat):(octs l).length=l.length:=by simp[octs]
theorem octs_sc (l:List Nat):(octs l).all AV.sc=true:=by simp[octs,AV.sc]
theorem octs_snoc (l:List Nat) (n:Nat):octs (l++[n])=octs l++[.int .u8 (n:Int)]:=by simp[octs]
theorem spanD_len (s:List UInt8):(spanD s).1.length+(spanD s).2.length=s.length:=by
 induction s with
 | nil=>rfl
 | cons c r ih=>
   simp only[spanD]
   split
   ·simp only[List.length_cons];omega
   ·simp
theorem Ext.newA (h:st.Wf) (o:AObj) {k:Nat} (hk:0<k):Ext st ⟨(st.nx,o)::st.h,st.nx+k⟩:=by
 have x:=Ext.new h o
 refine⟨by simp,⟨fun n p hp=> ?_,x.wf.nd⟩,x.keep⟩
 have:=x.wf.lt n p hp
 simp only at this⊢
 omega
def NK (v:AV):Prop:=∀n o k c,v≠.slice n o k (.known c)
theorem aappend_nk {ty es b:Nat} {st st':St} {v x v':AV} (h:aappend ty es b st v x=some (v',st')) (hv:NK v):NK v':=by
 unfold aappend at h
 split at h
 ·cases h
 ·split at h
  ·split at h
   ·cases h;exact hv
   ·split at h
    ·cases h;intro n o k c e;cases e
    ·cases h
  ·rename_i n o len cap
   split at h
   ·split at h
    ·exact absurd rfl (hv _ _ _ _)
    ·split at h
     ·split at h
      ·split at h
       ·cases h;exact hv
       ·cases h;intro n o k c e;cases e
      ·cases h
     ·cases h
    ·cases h
   ·cases h
  ·cases h
theorem CRes.also {r:Option (AV×St)} {P:AV→St→Prop} {R:AV→Prop} (h:CRes r P) (k:∀v s,r=some (v,s)→R v):CRes r fun v s=>P v s∧R v:=by
 obtain⟨v,s,h1,h2⟩:=h.elim
 rw[h1]
 exact⟨h2,k v s h1⟩
theorem digits_loop (H:B.H_real_scanner_digits T) {q:Nat} {s:List UInt8} (hs:s.length<35184372088832) (st0:St) (hq0:q<st0.nx):
  ∀(m k:Nat) (e:Env) (st1:St) (v:AV) (l:List Nat),k+m=s.length→Frm [q] st0 st1→ScnAt st1 q s k→eget e 0= .ptr q 0→eget e 3=v→Sl st1 v 5 1 l.length (octs l)→Mine [] st0 v→NK v→l.length≤k→
  Res (run T (.loop B.real_scanner_digits_l0) e st1) fun x e' s'=>x= .exit 0∧Frm [q] st0 s'∧Mine [] st0 (eget e' 3)∧NK (eget e' 3)∧Sl s' (eget e' 3) 5 1 (l++(spanD (s.drop k)).1).length (octs (l++(spanD (s.drop k)).1))∧ScnAt s' q s (k+(spanD (s.drop k)).1.length):=by
 intro m
 induction m with
 | zero=>
   intro k e st1 v l hi hf hq g0 g3 hv hm hnk hl
   have hkl:k=s.length:=by omega
   subst hkl
   rw[run_loop]
   simp[B.real_scanner_digits_l0,go_sem,g0]
   refine(one_res H.real_scanner_one hf.wf (s:=s) (k:=s.length) (by omega) (Nat.le_refl _) (by simp) hq).mono ?_
   rintro v1 s1 ⟨rfl,h1,h2⟩
   simp[oneB]at h2
   simp[go_sem,oneB,spanD,g3]
   exact⟨hf.trans h1 (by simp),hm,hnk,hv.frm h1 hf.wf (fun n hn=>by
    rcases hm n hn with h | h
    ·cases h
    ·simp;omega),h2⟩
 | succ m ih=>
   intro k e st1 v l hi hf hq g0 g3 hv hm hnk hl
   obtain⟨c,hc,hd⟩:=idx_some (s:=s) (i:=k) (by omega)
   have hge:∀n∈v.nms,st0.nx≤n:=fun n hn=>by
    rcases hm n hn with h | h
    ·cases h
    ·exact h
   rw[run_loop]
   simp[B.real_scanner_digits_l0,go_sem,g0]
   refine(one_res H.real_scanner_one hf.wf (s:=s) (k:=k) (by omega) (by omega) (by simp) hq).mono ?_
   rintro v1 s1 ⟨rfl,h1,h2⟩
   have hv1:=hv.frm h1 hf.wf (fun n hn=>by have:=hge n hn;simp;omega)
   have f1:=hf.trans h1 (by simp)
   change ScnAt s1 q s (if oneB ten (s.drop k)=true then k+1 else k)at h2
   by_cases hcd:48≤c.toNat∧c.toNat≤57
   ·have hb:oneB ten (s.drop k)=true:=by rw[hd];simp[oneB,mem_ten,hcd]
    have hb':oneB [48,49,50,51,52,53,54,55,56,57] (s.drop k)=true:=hb
    rw[if_pos hb]at h2
    have r0:=h2.r0
    have r1:=h2.r1
    have e1:IntKind.i64.wrap (k:Int)=k:=wrap64' (by omega) (by omega)
    have e2:IntKind.u8.wrap ((c.toNat:Int) - 48)=((c.toNat - 48:Nat):Int):=by
     rw[wrap_u8 (by omega) (by have:=c.toNat_lt;omega)];omega
    have xa:=Ext.newA f1.wf (.cells 5 false [.int .u8 ((c.toNat - 48:Nat):Int)]) (k:=17) (by omega)
    have fa:=f1.trans (xa.fr [q]) (by simp)
    have hva:=hv1.ext xa f1.wf
    have hap:=Sl.append (x:= .slice s1.nx 0 1 (.known 1)) (j:=1) (new:=[.int .u8 ((c.toNat - 48:Nat):Int)]) (b:=1) (Frm.refl xa.wf v.nms) (fun n h=> .inl h) hva
     (.inr ⟨_,_,_,rfl,rd_all (ty:=5) (l:=false) (by simp[hget_cons]) rfl⟩) (by simp[AV.sc]) (by omega) (by omega) (.inl (by omega))
    simp[go_sem,hb',RO.run,NO.run,r0,r1,e1,hc,e2,reps,g3]
    refine(hap.also (fun _ _ h=>aappend_nk h hnk)).mono ?_
    rintro v2 s2 ⟨⟨k1,k2,k3,_⟩,hnk2⟩
    have k2':=fa.trans k2 (fun n hn=> .inr (hge n hn))
    have hnx:=fa.nx
    have hm2:Mine [] st0 v2:=fun n hn=>by
     rcases k3 n hn with h | h
     ·exact .inr (hge n h)
     ·exact .inr (Nat.le_trans hnx h)
    simp[go_sem]
    have hq2:ScnAt s2 q s (k+1):=k2.get xa.wf (h2.ext f1.wf xa) (fun h=>by have:=hge q h;omega)
    have hsp:spanD (s.drop k)=((c.toNat - 48)::(spanD (s.drop (k+1))).1,(spanD (s.drop (k+1))).2):=by rw[hd];simp[spanD,hcd]
    refine(ih (k+1) _ s2 v2 (l++[c.toNat - 48]) (by omega) k2' hq2 ?_ ?_ (by rw[octs_snoc];simpa using k1) hm2 hnk2 (by simp;omega)).mono ?_
    ·simp[go_sem]
    ·simp[go_sem]
    ·rintro x e' s' ⟨rfl,j1,j2,j0,j3,j4⟩
     rw[hsp]
     simp only[List.append_assoc,List.singleton_append]at j3
     refine⟨by simp,j1,j2,j0,by simpa using j3,?_⟩
     rw[List.length_cons,show k+((spanD (s.drop (k+1))).1.length+1)=k+1+(spanD (s.drop (k+1))).1.length by omega]
     exact j4
   ·have hb:¬oneB ten (s.drop k)=true:=by rw[hd];simp[oneB,mem_ten,hcd]
    have hb':oneB [48,49,50,51,52,53,54,55,56,57] (s.drop k)=false:=(by simpa using hb:oneB ten (s.drop k)=false)
    rw[if_neg hb]at h2
    have hsp:spanD (s.drop k)=([],s.drop k):=by rw[hd];simp[spanD,hcd]
    simp[go_sem,hb',hsp,g3]
    exact⟨f1,hm,hnk,hv1,h2⟩
theorem digits_res (H:B.H_real_scanner_digits T) (hwf:st.Wf) {q k:Nat} {s:List UInt8} (hs:s.length<35184372088832) (hk:k≤s.length) (hq:ScnAt st q s k):
  CRes (call T (.fn 121 [.ptr q 0] []) [] st) fun v s'=>Frm [q] st s'∧Mine [] st v∧NK v∧Sl s' v 5 1 (spanD (s.drop k)).1.length (octs (spanD (s.drop k)).1)∧ScnAt s' q s (k+(spanD (s.drop k)).1.length):=by
 refine call_res H.e H.f rfl ?_
 have hqn:q<st.nx:=hwf.lt _ _ hq
 simp[B.real_scanner_digits,go_sem]
 refine(digits_loop H hs st hqn (s.length - k) k _ st .nilslice [] (by omega) (.refl hwf _) hq ?_ ?_ (.nil _ _ _) (Mine.nil _ _) (fun _ _ _ _ h=>by cases h) (by simp)).mono ?_
 ·simp[go_sem]
 ·simp[go_sem]
 ·rintro x e s' ⟨rfl,j1,j2,j0,j3,j4⟩
  simp only[List.nil_append]at j3 j4
  simp[go_sem]
  exact⟨j1.dropLoc,j2,j0,j3.dropLoc j1.wf,hget_dropLoc_keep j1.wf j4 rfl⟩
end Go.Ev
