/- Functions of numbers, bools and strings that leave the heap alone: what the kernel finds in an empty state holds in any. -/
import Derived.Test.YthckfhllgpfidaaGreatDoorP03
import Derived.KernelRfl
import Derived.Lib.Repeat
import Derived.Lib.Bytealg
import Derived.Laws.Externs
import Derived.Lib.LaidTab
import Derived.Lib.ItoaNum
import Derived.Lib.Case
set_option linter.unusedSimpArgs false
set_option linter.unusedVariables false
set_option linter.unusedSectionVars false
namespace Go.Ev
open Go
variable {T T' : Tab} {st : St}
def Zx5 (i:MI):Bool:=
 match i.op with
 | .p _=>true
 | .w (.call (.k (.fn _ [] [])) _)=>true
 | _=>false
def Bk:Zx→Bool
 | .skip | .exit _ | .ret | .Zi _=>true
 | .Zd l=>l.all Zx5
 | .seq a b | .cond _ a b=>Bk a && Bk b
 | .block _ b | .loop b | .scope b=>Bk b
 | _=>false
def Zra:Zir→Bool
 | .t _=>true
 | _=>false
def Zfh (T' T:Tab):Prop:=(∀k,T'.en k=none)∧∀k mf,T'.fn k=some mf→T.fn k=some mf∧T.en k=none∧Bk mf.body=true∧mf.results.all Zra=true
abbrev s0:St:=⟨[],0⟩
def Zsg (T' T:Tab) (n:Nat):Prop:=
 ∀c e r,Bk c=true→exec T' n c e s0=some r→r.2.2=s0∧∀st:St,st.Wf→exec T n c e st=some (r.1,r.2.1,st)
theorem O1 {e:Env} {v:AV} {h h':Heap}:∀{l:List Zir} {vs:List AV},l.all Zra=true→Zm h e l=some vs→Zm h' e l=some vs
 | [],vs,_,hv=>hv
 | .t n::l,vs,hl,hv=>by
   simp only[List.all_cons,Bool.and_eq_true]at hl
   simp only[Zm,Zr]at hv⊢
   split at hv
   ·rename_i v1 vs1 h1 h2
    cases h1
    rw[O1 (v:=v) hl.2 h2]
    exact hv
   ·cases hv
 | .cell n s::l,vs,hl,hv=>by simp[Zra]at hl
theorem Zv2 {n:Nat} (hin:Zfh T' T) (ih:Zsg T' T n) {k:Nat} {args:List AV} {r:AV×St} (h:J9 T' (exec T' n) (.fn k [] []) args s0=some r):
  r.2=s0∧∀st:St,st.Wf→J9 T (exec T n) (.fn k [] []) args st=some (r.1,st):=by
 simp only[J9,Et,hin.1 k,List.nil_append,List.append_nil]at h⊢
 split at h
 ·cases h
 ·rename_i mf hmf
  obtain⟨h1,h2,h3,h4⟩:=hin.2 k mf hmf
  split at h
  case isFalse=>cases h
  rename_i hl
  have key:∀x e' s,exec T' n mf.body (Ul 0 args) s0=some (x,e',s)→(x= .norm∨x= .ret)→(∀v,Zg s.h e' mf.results=some v→r=(v,⟨Zp s0.nx s.h,s.nx⟩)→
    r.2=s0∧∀st:St,st.Wf→(match T.en k with | some F=>F args st | none=>match T.fn k with | none=>none | some mf=>if args.length=mf.Zex then match exec T n mf.body (Ul 0 args) st with
      | some (.norm,e',st') | some (.ret,e',st')=>(match Zg st'.h e' mf.results with | some v=>some (v,⟨Zp st.nx st'.h,st'.nx⟩) | none=>none) | _=>none else none)=some (r.1,st)):=by
   intro x e' s hx hxr v hv hr
   obtain⟨g1,g2⟩:=ih _ _ _ h3 hx
   simp only at g1
   subst g1
   subst hr
   refine⟨rfl,fun st hst=> ?_⟩
   have g3:=g2 st hst
   simp only at g3
   have hd:Zp st.nx st.h=st.h:=by
    rw[Xj,Uo (fun n o ho=>hst.lt n o ho),Ed]
   have hfr:Zg st.h e' mf.results=some v:=by
    unfold Zg at hv⊢
    cases hq:Zm s0.h e' mf.results with
    | none=>rw[hq]at hv;cases hv
    | some vs=>rw[hq]at hv;rw[O1 (v:=v) h4 hq];exact hv
   simp only[h1,h2]
   rw[if_pos hl,g3]
   rcases hxr with rfl | rfl <;> simp only[hfr,hd]
  split at h <;> rename_i hx
  ·split at h <;> rename_i hv
   ·cases h;exact key _ _ _ hx (.inl rfl) _ hv rfl
   ·cases h
  ·split at h <;> rename_i hv
   ·cases h;exact key _ _ _ hx (.inr rfl) _ hv rfl
   ·cases h
  ·cases h
theorem Zrb {n:Nat} (hin:Zfh T' T) (ih:Zsg T' T n):∀{l:List MI} {e:Env} {r:Env×St},l.all Zx5=true→Yi (J9 T' (exec T' n)) l e s0=some r→
  r.2=s0∧∀st:St,st.Wf→Yi (J9 T (exec T n)) l e st=some (r.1,st)
 | [],e,r,_,h=>by cases h;exact⟨rfl,fun _ _=>rfl⟩
 | i::l,e,r,hl,h=>by
   simp only[List.all_cons,Bool.and_eq_true]at hl
   obtain⟨hi,hl⟩:=hl
   simp only[Yi]at h⊢
   split at h
   case h_2=>cases h
   rename_i e1 st1 h1
   have one:st1=s0∧∀st:St,st.Wf→i.run (J9 T (exec T n)) e st=some (e1,st):=by
    obtain⟨d,g,o⟩:=i
    unfold MI.run at h1⊢
    simp only at h1⊢
    split at h1
    ·rename_i hw
     simp only[Zx5]at hi
     cases o with
     | p o=>
       simp only[MO.run]at h1⊢
       split at h1
       ·rename_i v1 st2 h2
        split at h2
        ·rename_i v2 h3
         cases h2
         cases h1
         exact⟨rfl,fun st _=>by simp⟩
        ·cases h2
       ·cases h1
     | w o=>
       cases o with
       | call f xs=>
         cases f with
         | k v=>
           cases v with
           | fn k a b=>
             cases a with
             | nil=>
               cases b with
               | nil=>
                 simp only[MO.run,WO.run,AO.ev]at h1⊢
                 split at h1
                 ·rename_i v1 st2 h2
                  obtain⟨g1,g2⟩:=Zv2 hin ih h2
                  simp only at g1
                  subst g1
                  cases h1
                  refine⟨rfl,fun st hst=> ?_⟩
                  have g3:=g2 st hst
                  simp only at g3
                  simp only[g3]
                 ·cases h1
               | cons=>simp at hi
             | cons=>simp at hi
           | _=>simp at hi
         | t=>simp at hi
       | _=>simp at hi
     | _=>simp at hi
    ·rename_i hw
     cases h1
     exact⟨rfl,fun st _=>by simp⟩
    ·cases h1
   obtain⟨rfl,one⟩:=one
   obtain⟨g1,g2⟩:=Zrb hin ih hl h
   exact⟨g1,fun st hst=>by simp only[one st hst];exact g2 st hst⟩
theorem Zur (hin:Zfh T' T):∀n,Zsg T' T n
 | 0=>fun c e r _ h=>by cases h
 | n+1=>by
   have ih:=Zur hin n
   intro c e r hc h
   rw[X7]at h
   have two:∀{a b:Zx},Bk a=true→Bk b=true→(match exec T' n a e s0 with | some (.norm,e,st)=>exec T' n b e st | r=>r)=some r→
     r.2.2=s0∧∀st:St,st.Wf→(match exec T n a e st with | some (.norm,e,st)=>exec T n b e st | r=>r)=some (r.1,r.2.1,st):=by
    intro a b ha hb h
    split at h
    ·rename_i e1 st1 h1
     obtain⟨g1,g2⟩:=ih _ _ _ ha h1
     simp only at g1
     subst g1
     obtain⟨k1,k2⟩:=ih _ _ _ hb h
     exact⟨k1,fun st hst=>by rw[g2 st hst];exact k2 st hst⟩
    ·rename_i hne
     obtain⟨g1,g2⟩:=ih _ _ _ ha h
     refine⟨g1,fun st hst=> ?_⟩
     rw[g2 st hst]
     obtain⟨x,e1,s1⟩:=r
     simp only at g1
     subst g1
     cases x with
     | norm=>exact absurd h (hne _ _)
     | _=>rfl
   cases c with
   | skip=>cases h;exact⟨rfl,fun st _=>rfl⟩
   | exit i=>cases h;exact⟨rfl,fun st _=>rfl⟩
   | ret=>cases h;exact⟨rfl,fun st _=>rfl⟩
   | Zi l=>cases h;exact⟨rfl,fun st _=>rfl⟩
   | Zd l=>
     simp only[Bk]at hc
     simp only[Qe]at h
     split at h
     ·rename_i e1 st1 h1
      obtain⟨g1,g2⟩:=Zrb hin ih hc h1
      cases h
      refine⟨g1,fun st hst=> ?_⟩
      rw[X7]
      simp only[Qe,g2 st hst]
     ·cases h
   | seq a b=>
     simp only[Bk,Bool.and_eq_true]at hc
     by_cases hk:∃l,a= .Zi l
     ·obtain⟨l,rfl⟩:=hk
      simp only[Qe]at h
      obtain⟨g1,g2⟩:=ih _ _ _ hc.2 h
      refine⟨g1,fun st hst=> ?_⟩
      rw[X7]
      simp only[Qe]
      exact g2 st hst
     ·have e1:∀(T:Tab) (ex:ExF) st,Qe T ex (.seq a b) e st=(match ex a e st with | some (.norm,e,st)=>ex b e st | r=>r):=by
       intro T ex st
       cases a <;> first | rfl | exact absurd ⟨_,rfl⟩ hk
      rw[e1]at h
      obtain⟨g1,g2⟩:=two hc.1 hc.2 h
      refine⟨g1,fun st hst=> ?_⟩
      rw[X7,e1]
      exact g2 st hst
   | cond x a b=>
     simp only[Bk,Bool.and_eq_true]at hc
     simp only[Qe]at h
     split at h
     ·rename_i hx
      obtain⟨g1,g2⟩:=ih _ _ _ hc.1 h
      exact⟨g1,fun st hst=>by rw[X7];simp only[Qe,hx];exact g2 st hst⟩
     ·rename_i hx
      obtain⟨g1,g2⟩:=ih _ _ _ hc.2 h
      exact⟨g1,fun st hst=>by rw[X7];simp only[Qe,hx];exact g2 st hst⟩
     ·cases h
   | block i b=>
     simp only[Bk]at hc
     simp only[Qe]at h
     split at h
     ·rename_i i2 e2 st2 h1
      obtain⟨g1,g2⟩:=ih _ _ _ hc h1
      simp only at g1
      subst g1
      split at h
      ·rename_i hi
       cases h
       exact⟨rfl,fun st hst=>by rw[X7];simp only[Qe,g2 st hst];rw[if_pos hi]⟩
      ·rename_i hi
       cases h
       exact⟨rfl,fun st hst=>by rw[X7];simp only[Qe,g2 st hst];rw[if_neg hi]⟩
     ·rename_i hne
      obtain⟨g1,g2⟩:=ih _ _ _ hc h
      refine⟨g1,fun st hst=> ?_⟩
      rw[X7]
      simp only[Qe,g2 st hst]
      obtain⟨x,e1,s1⟩:=r
      cases x with
      | exit i=>exact absurd h (hne _ _ _)
      | _=>rfl
   | loop b=>
     simp only[Bk]at hc
     simp only[Qe]at h
     obtain⟨g1,g2⟩:=two hc (b:= .loop b) hc h
     refine⟨g1,fun st hst=> ?_⟩
     rw[X7]
     simp only[Qe]
     exact g2 st hst
   | scope b=>
     simp only[Bk]at hc
     simp only[Qe]at h
     obtain⟨g1,g2⟩:=ih _ _ _ hc h
     exact⟨g1,fun st hst=>by rw[X7];simp only[Qe];exact g2 st hst⟩
   | rangeFunc=>cases hc
   | rangeMap=>cases hc
   | Y7=>cases hc
   | stuck=>cases hc
noncomputable def Ze6 (T':Tab) (n:Nat) (mf:Z8) (args:List AV) (v:AV):Bool:=
 Bk mf.body && mf.results.all Zra &&
 match exec T' n mf.body (Ul 0 args) s0 with
 | some (.norm,e,s) | some (.ret,e,s)=>(match Zg s.h e mf.results with | some u=>Nd u v | none=>false)
 | _=>false
theorem Gz {n k:Nat} {mf:Z8} (hin:Zfh T' T) (hen:T.en k=none) (hf:T.fn k=some mf) (hst:st.Wf) {args:List AV} {v:AV} (hl:args.length=mf.Zex) (hs:Ze6 T' n mf args v=true):
  Qa T st (.fn k [] []) args v:=by
 unfold Ze6 at hs
 simp only[Bool.and_eq_true]at hs
 obtain⟨⟨h1,h2⟩,h3⟩:=hs
 refine Zs hen hf (by simpa using hl) ?_
 simp only[List.nil_append,List.append_nil]
 have key:∀x e s,exec T' n mf.body (Ul 0 args) s0=some (x,e,s)→(x= .norm∨x= .ret)→(match Zg s.h e mf.results with | some u=>Nd u v | none=>false)=true→
   Res (run T mf.body (Ul 0 args) st) fun x e s=>(x= .norm∨x= .ret)∧Zg s.h e mf.results=some v∧Ext st s:=by
  intro x e s hx hxr hv
  obtain⟨g1,g2⟩:=Zur hin n _ _ _ h1 hx
  simp only at g1
  subst g1
  have g3:=Wh.2 ⟨n,g2 st hst⟩
  rw[g3]
  refine⟨hxr,?_,.refl hst⟩
  split at hv
  ·rename_i u hu
   have:=Zie hv
   subst this
   unfold Zg at hu⊢
   cases hq:Zm s0.h e mf.results with
   | none=>rw[hq]at hu;cases hu
   | some vs=>rw[hq]at hu;rw[O1 (v:=u) h2 hq];exact hu
  ·cases hv
 split at h3 <;> rename_i hx
 ·exact key _ _ _ hx (.inl rfl) h3
 ·exact key _ _ _ hx (.inr rfl) h3
 ·cases h3
def T0:Tab:=⟨fun _=>none,fun _=>none⟩
theorem Zao:Zfh T0 T:=⟨fun _=>rfl,fun _ _ h=>by cases h⟩
def T1 (k:Nat) (m:Z8):Tab:=⟨fun i=>if i=k then some m else none,fun _=>none⟩
theorem Zz5 {k:Nat} {m:Z8} (he:T.en k=none) (hf:T.fn k=some m) (hb:Bk m.body=true) (hr:m.results.all Zra=true):Zfh (T1 k m) T:=⟨fun _=>rfl,fun i mf h=>by
 simp only[T1]at h
 split at h
 ·rename_i e;subst e;cases h;exact⟨hf,he,hb,hr⟩
 ·cases h⟩
theorem V7 {P:Nat→Bool} (h:(List.range 256).all P=true) (c:UInt8):P c.toNat=true:=List.all_eq_true.1 h _ (List.mem_range.2 c.toNat_lt)
end Go.Ev

/- An entry of the table out of a contract: a function of the library that is called. -/
namespace Go.Ev
open Go Go.RowKit
variable {X : Cx} {N : Nu} {D : Nt}
theorem HR.below {h:Heap} {w w':World} (hr:HR D X N h w) (b:Below w.heap.size w w'):HR D X N h w':=
 ⟨fun n o ho=>(hr.Wj n o ho).Zi (.refl N) b.size (fun a ha=>b.block _ ((hr.Wj n o ho).lt ha)),hr.sep⟩
theorem Gd.below {h:Heap} {w w':World} (b:Below w.heap.size w w'):Gd N h w N h w':=
 ⟨.refl N,b.size,b.tape,b.os,b.output,fun k hk _=>b.block k hk,fun n o a h1 h2=> .inl ⟨n,o,a,h1,h2,rfl,id⟩⟩
def Zgn (P:Program) (f:FuncId):Bool:=
 match P.funcs[f]? with
 | some fn=>fn.body.isSome && !(fn.name == "runtime.NumGoroutine")
 | none=>false
theorem Ih {P:Program} {f:FuncId} {us:Array Value} {w w':World} {u:Value} {c:Frame} {cs:List Frame} (hb:Zgn P f=true)
  (h:∃fr,Comes P (lone (Frame.enter P f us .normal) (c::cs) w) (lone fr (c::cs) w') (.returned u)∧fr.leaving P w' (.returned u)):I5 P (callFunc f us) w c cs u w':=by
 unfold Zgn at hb
 split at hb
 case h_2=>cases hb
 rename_i fn hf
 simp only[Bool.and_eq_true,Bool.not_eq_true']at hb
 obtain⟨body,hbody⟩:=Option.isSome_iff_exists.1 hb.1
 obtain⟨fr,h1,h2⟩:=h
 have hcf:(callFunc f us).run P w= .ok (.enter f us) w:=by
  have hname':¬fn.name= "runtime.NumGoroutine" :=by simpa using hb.2
  simp[callFunc,hf,hname',hbody]
 refine⟨.enter f us,w,hcf,.inr (.inl ⟨_,_,rfl,?_⟩)⟩
 exact Steps.trans h1 (.one (step_leave_returned h2))
theorem Tf {f:Nat} {F:Entry} (hb:Zgn X.P (X.φ f)=true)
  (h:∀args st v st',F args st=some (v,st')→st'=st∧∀N us,VRs X N args us→∃u,VR X N v u∧∀w,Calls X.P (X.φ f) us.toArray w fun e w'=>e= .returned u∧Below w.heap.size w w'):Ww D X f F:=by
 intro args st v st' hF N w us hr hv c cs
 obtain⟨rfl,h1⟩:=h args st v st' hF
 obtain⟨u,hu,h2⟩:=h1 N us hv
 obtain⟨e,w',fr,⟨rfl,hbel⟩,hc,_,hl⟩:=h2 w (c::cs)
 exact⟨N,u,w',hu,⟨hr.hr.below hbel,hr.fresh⟩,Gd.below hbel,Nat.le_refl _,fun _ _=>rfl,Ih hb ⟨fr,hc,hl⟩⟩
end Go.Ev

/- strings.Repeat as an entry of the table. -/
namespace Go.Ev
open Go Go.RowKit
variable {X : Cx} {D : Nt} {T : Tab} {st : St}
theorem Ziw {k:Nat} {F:Entry} (h:T.en k=some F) {first args cap:List AV}:call T (.fn k first cap) args st=F (first++args++cap) st:=by
 simp only[call,J9,Et,h]
end Go.Ev

/- Functions of the library as entries of the table: what each answers, and how a contract or a plain run makes the entry. -/
namespace Go.Ev
open Go Go.RowKit
variable {X : Cx} {D : Nt} {T : Tab} {st : St}
theorem Zhj {f:Nat} {F:Entry} {fn:Func} {e:Array Value→Sem Value} (hf:X.P.funcs[X.φ f]? =some fn) (hname:(fn.name == "runtime.NumGoroutine")=false) (hb:fn.body.isNone=true)
  (hn:Extern.findNext fn=none) (he:Extern.find fn=some e)
  (h:∀args st v st',F args st=some (v,st')→st'=st∧∀N us,VRs X N args us→∃u,VR X N v u∧∀w,(e us.toArray).run X.P w= .ok u w):Ww D X f F:=by
 intro args st v st' hF N w us hr hv c cs
 obtain⟨rfl,h1⟩:=h args st v st' hF
 obtain⟨u,hu,h2⟩:=h1 N us hv
 have h3:=run_callFunc_extern hf hname hb hn he us.toArray w
 rw[h2 w]at h3
 exact⟨N,u,w,hu,hr,.refl _ _ _,Nat.le_refl _,fun _ _=>rfl,.value u,w,h3,.inl ⟨rfl,rfl⟩⟩
namespace B
def M8:Entry:=fun args st=>match args with
 | [.ptr n o]=>some (.ptr n o,st)
 | _=>none
def Ud:Entry:=fun args st=>match args with
 | [.str s,.int .u8 c]=>some (.int .i64 (Lib.indexByte s c.toNat.toUInt8),st)
 | _=>none
def Ue:Entry:=fun args st=>match args with
 | [.str s,.str [c]]=>some (.int .i64 (Lib.indexByte s c),st)
 | _=>none
def C9:Nat:=4
def av64:AV→Option Int
 | .int .u64 n=>some n
 | _=>none
def Zxl (h:Heap):Bool:=h.any fun p=>match Zh h p.1 with
 | some (.By g cs)=>decide (g=C9) && decide (cs.map av64=Lib.pow10Tab.map some)
 | _=>false
def X0:Entry:=fun args st=>match args with
 | [.int .i64 n]=>if Zxl st.h=true∧-9223372036854775808≤n∧n≤9223372036854775807 then some (.str (Lib.itoa n),st)else none
 | _=>none
end B
theorem Zj5 {f:Nat} {fn:Func} (hf:X.P.funcs[X.φ f]? =some fn) (hname:(fn.name == "runtime.NumGoroutine")=false) (hb:fn.body.isNone=true)
  (hn:Extern.findNext fn=none) (he:Extern.find fn=some Extern.AbiNoEscape.same):Ww D X f B.M8:=by
 refine Zhj hf hname hb hn he fun args st v st' hF=> ?_
 unfold B.M8 at hF
 split at hF
 case h_2=>cases hF
 cases hF
 refine⟨rfl,fun N us hus=> ?_⟩
 obtain⟨u0,us0,rfl,h0,rfl⟩:=hus
 exact⟨u0,h0,fun w=>rfl⟩
theorem Zhu {f:Nat} (hb:Zgn X.P (X.φ f)=true)
  (h:∀(s:ByteArray) (c:Int) (w:World),Calls X.P (X.φ f) #[.string s,.int .u8 c] w fun e w'=>e= .returned (.int .i64 (Lib.indexByte s.data.toList c.toNat.toUInt8))∧w'=w):Ww D X f B.Ud:=by
 refine Tf hb fun args st v st' hF=> ?_
 unfold B.Ud at hF
 split at hF
 case h_2=>cases hF
 cases hF
 refine⟨rfl,fun N us hus=> ?_⟩
 obtain⟨u0,us0,rfl,h0,u1,us1,rfl,h1,rfl⟩:=hus
 cases h0
 cases h1
 refine⟨_,rfl,fun w=> ?_⟩
 refine(h ⟨_⟩ _ w).mono fun e w' ⟨h1,h2⟩=>⟨by simpa using h1,?_⟩
 subst h2
 exact Below.refl _ _
theorem Zob {f:Nat} (hb:Zgn X.P (X.φ f)=true)
  (h:∀(s:ByteArray) (c:UInt8) (w:World),Calls X.P (X.φ f) #[.string s,.string ⟨#[c]⟩] w fun e w'=>e= .returned (.int .i64 (Lib.indexByte s.data.toList c))∧w'=w):Ww D X f B.Ue:=by
 refine Tf hb fun args st v st' hF=> ?_
 unfold B.Ue at hF
 split at hF
 case h_2=>cases hF
 cases hF
 refine⟨rfl,fun N us hus=> ?_⟩
 obtain⟨u0,us0,rfl,h0,u1,us1,rfl,h1,rfl⟩:=hus
 cases h0
 cases h1
 refine⟨_,rfl,fun w=> ?_⟩
 refine(h ⟨_⟩ _ w).mono fun e w' ⟨h1,h2⟩=>⟨by simpa using h1,?_⟩
 subst h2
 exact Below.refl _ _
theorem Ph {f:Nat} {F:Entry} (hb:Zgn X.P (X.φ f)=true)
  (h:∀args st v st',F args st=some (v,st')→st'=st∧∀N us w,HR D X N st.h w→VRs X N args us→∃u,VR X N v u∧Calls X.P (X.φ f) us.toArray w fun e w'=>e= .returned u∧Below w.heap.size w w'):Ww D X f F:=by
 intro args st v st' hF N w us hr hv c cs
 obtain⟨rfl,h1⟩:=h args st v st' hF
 obtain⟨u,hu,h2⟩:=h1 N us w hr.hr hv
 obtain⟨e,w',fr,⟨rfl,hbel⟩,hc,_,hl⟩:=h2 (c::cs)
 exact⟨N,u,w',hu,⟨hr.hr.below hbel,hr.fresh⟩,Gd.below hbel,Nat.le_refl _,fun _ _=>rfl,Ih hb ⟨fr,hc,hl⟩⟩
theorem Zuw {N:Nu}:∀{zs:List Int} {cs:List AV} {us:List Value},cs.map B.av64=zs.map some→VRs X N cs us→us=zs.map fun z=>Value.int .u64 z
 | [],[],us,_,h=>h
 | [],_::_,us,e,h=>by simp at e
 | _::_,[],us,e,h=>by simp at e
 | z::zs,c::cs,us,e,h=>by
   simp only[List.map_cons,List.cons.injEq]at e
   obtain⟨u,us,rfl,h0,h1⟩:=h
   have hc:c= .int .u64 z:=by
    have:=e.1
    unfold B.av64 at this
    split at this
    ·cases this;rfl
    ·cases this
   subst hc
   cases h0
   rw[Zuw e.2 h1];rfl
theorem Zs4 {f:Nat} (hb:Zgn X.P (X.φ f)=true) (hname:X.P.globalNamed "internal/strconv.uint64pow10" =some (X.γ B.C9))
  (h:∀(n:Int) (w:World), -9223372036854775808≤n→n≤9223372036854775807→Lib.TabIs X.P w "internal/strconv.uint64pow10" .u64 Lib.pow10Tab→Calls X.P (X.φ f) #[.int .i64 n] w fun e w'=>e= .returned (.string ⟨(Lib.itoa n).toArray⟩)∧Below w.heap.size w w'):Ww D X f B.X0:=by
 refine Ph hb fun args st v st' hF=> ?_
 unfold B.X0 at hF
 split at hF
 case h_2=>cases hF
 split at hF
 case isFalse=>cases hF
 rename_i hc
 cases hF
 refine⟨rfl,fun N us w hr hus=> ?_⟩
 obtain⟨u0,us0,rfl,h0,rfl⟩:=hus
 cases h0
 refine⟨_,rfl,h _ w hc.2.1 hc.2.2 ?_⟩
 have hp:=hc.1
 unfold B.Zxl at hp
 rw[List.any_eq_true]at hp
 obtain⟨p,_,hp⟩:=hp
 split at hp
 case h_2=>cases hp
 rename_i g cs hg
 simp only[Bool.and_eq_true,decide_eq_true_eq]at hp
 obtain⟨rfl,hcs⟩:=hp
 obtain⟨us,t,fz,_,hw,hv⟩:=hr.Wj _ _ hg
 have:=Zuw hcs hv
 unfold Lib.TabIs World.var?
 rw[hname]
 simp only[Option.bind_some,hw]
 rw[←this]
end Go.Ev

/- The abstract bodies of the functions, printed by a program of this work. -/
namespace Go.Ev.B
open Go
def R0:Zx:=(.seq (.Zi [2,3,14,15]) (.seq (.Zd [p 16 (.bin .lss 15 (.k (.int .i64 3)))]) (.seq (.cond 16 .skip (.exit 0)) (.seq (.block 1 (.seq (.Zd [p 17 (.Zs3
 3 1 none 14 15),p 6 (.Za 17)]) (.seq (.Zd [p 19 (.Za 6),w 20 (.call 19 []),p 18 (.Za 20),p 21 (.Zt 0 18),p 22 (.Zt 1 18),w0 (.store 3 2 21),p 3 (.Za 22)]) (.seq (.Zd
 [p 23 (.Za 3),p 24 (.bin .neq 23 (.k (.int .i64 5)))]) (.cond 24 (.exit 0) .skip))))) (.seq (.Zi [2,3,14,15]) (.Zd [p 25 (.bin .add 15 (.k (.int .i64 1))),p 15 (.Za 25)]))))))
def Ni:Z8:=⟨1,[.cell 2 (some 3),.t 3],(.seq (.Zd [n 2 (.alloc 134 true [(.int .i64 0),(.int .i64 0),(.str [])]),p 3 (.Za (.k (.int .i64 0)))]) (.scope (.seq (.Zd
 [p 7 (.Za 0),p 4 (.Za 7)]) (.seq .skip (.seq (.seq (.Zd [p 8 (.Za 4),p 9 (.Zbu 75 [8] []),p 10 (.Za 4),p 11 (.Zbu 76 [10] []),p 12 (.Za 4),p 13 (.Zbu 77 [12] []),p 14
 (.build [.Lb,.Lb,.Lb] [(0,1,9),(1,1,11),(2,1,13)]),p 15 (.Za (.k (.int .i64 0)))]) (.seq (.Zi [2,3,14,15]) (.block 0 (.loop R0)))) (.seq (.Zi
 [2,3]) (.seq (.Zd [r 26 (.load (some 3) 2),p 27 (.Za 3),w0 (.store 3 2 26),p 3 (.Za 27)]) .ret)))))))⟩
def Q0:Zx:=(.seq (.Zi [0,2,7]) (.seq (.seq (.Zd [p 45 (.Za 7),p 46 (.bin .leq 45 (.k (.int .i64 2))),p 47 (.Za 46),pg 48 47 true (.Za 7),pg 49 47
 true (.Za 0),pg 50 47 true (.lenOf true 49),pg 51 47 true (.bin .lss 48 50),p 52 (.pick 47 51 (.k (.bool false)))]) (.cond 52 .skip (.exit 0))) (.seq (.Zi [0,2,7]) (.seq (.block
 1 (.seq (.Zd [p 55 (.Za 0),p 56 (.Za 7),p 57 (.Lg 55 none (some 56)),w 58 (.call (.k (.fn 78 [] [])) [57,(.k (.int .i64 10))]),p 8 (.Za 58)]) (.seq (.Zd [p 59 (.Za 0),
 p 60 (.Za 7),p 61 (.Q4 59 60),p 62 (.bin .eql 61 (.k (.int .u8 35))),p 63 (.Za 62),pg 64 63 true (.Za 8),pg 65 63 true (.bin .geq 64 (.k (.int .i64 2))),p 66 (.pick 63 65
 (.k (.bool false))),p 67 (.Za 66),pg 68 67 true (.Za 8),pg 69 67 true (.bin .leq 68 (.k (.int .i64 36))),p 70 (.pick 67 69 (.k (.bool false))),p 71 (.Za 70),pg 72 71 true (.Za
 0),pg 73 71 true (.Za 7),pg 74 71 true (.bin .add 73 (.k (.int .i64 1))),pg 75 71 true (.Lg 72 (some 74) none),pg 76 71 true (.Za 8),wg 77 71 true (.call (.k (.fn 78 [] []))
 [75,76]),pg 78 71 true (.bin .geq 77 (.k (.int .i64 0))),p 79 (.pick 71 78 (.k (.bool false)))]) (.seq (.Zi [0,2,7,8,79]) (.cond 79 (.seq (.Zd [p 80 (.Za 0),p 81 (.Za 7),
 p 82 (.bin .add 81 (.k (.int .i64 1))),p 83 (.Lg 80 (some 82) none),p 84 (.Za 8),w 85 (.call (.k (.fn 78 [] [])) [83,84]),p 86 (.Za 0),p 87 (.lenOf true 86),w 88 (.call (.k
 (.fn 79 [] [])) [85,87]),p 89 (.Zt 0 88),p 90 (.Zt 1 88),w0 (.store 3 2 89),p 3 (.Za 90)]) .ret) .skip))))) (.seq (.Zi [0,2,7]) (.Zd [p 53 (.Za 7),p 54 (.bin .add 53
 (.k (.int .i64 1))),p 7 (.Za 54)]))))))
def Qb:Z8:=⟨1,[.cell 2 (some 3),.t 3],(.seq (.Zd [n 2 (.alloc 134 true [(.int .i64 0),(.int .i64 0),(.str [])]),p 3 (.Za (.k (.int .i64 0)))]) (.seq (.Zd
 [p 15 (.Za 0),p 4 (.Za 15),p 5 (.Za (.k (.int .i64 1)))]) (.seq (.seq (.Zd [p 16 (.Za 0),p 17 (.bin .neq 16 (.k (.str []))),p 18 (.Za 17),pg 19 18 true (.Za 0),pg 20 18
 true (.Q4 19 (.k (.int .i64 0))),pg 21 18 true (.bin .eql 20 (.k (.int .u8 45))),pg 22 18 true (.Za 21),pg 23 22 false (.Za 0),pg 24 22 false (.Q4 23 (.k (.int .i64 0))),
 pg 25 22 false (.bin .eql 24 (.k (.int .u8 43))),pg 26 18 true (.pick 22 (.k (.bool true)) 25),p 27 (.pick 18 26 (.k (.bool false)))]) (.seq (.Zi [0,2,4,5,27]) (.cond 27 (.seq
 (.Zd [p 28 (.Za 0),p 29 (.Lg 28 (some (.k (.int .i64 1))) none),p 4 (.Za 29)]) (.seq (.Zd [p 30 (.Za 0),p 31 (.Q4 30 (.k (.int .i64 0))),p 32 (.bin .eql 31 (.k (.int .u8
 45)))]) (.cond 32 (.Zd [p 5 (.Za (.k (.int .i64 (-1))))]) .skip))) .skip))) (.seq (.Zi [0,2,4,5]) (.seq (.seq (.Zd [p 33 (.Za 4),w 34 (.call (.k (.fn 78 [] [])) [33,(.k (.int
 .i64 10))]),p 6 (.Za 34)]) (.seq (.Zd [p 35 (.Za 6),p 36 (.bin .geq 35 (.k (.int .i64 0)))]) (.cond 36 (.seq (.Zd [p 37 (.Za 5),p 38 (.Za 6),p 39 (.bin .mul 37 38),p 40 (.Za
 0),p 41 (.lenOf true 40),w 42 (.call (.k (.fn 79 [] [])) [39,41]),p 43 (.Zt 0 42),p 44 (.Zt 1 42),w0 (.store 3 2 43),p 3 (.Za 44)]) .ret) .skip))) (.seq (.Zi [0,2]) (.seq
 (.seq (.Zd [p 7 (.Za (.k (.int .i64 1)))]) (.block 0 (.loop Q0))) (.seq (.Zi [0,2]) (.seq (.Zd [p 92 (.Za 0),w 93 (.call (.k (.fn 80 [] [])) [92]),p 91 (.Za
 93),p 94 (.Zt 0 91),p 95 (.Zt 1 91),p 96 (.Zt 2 91),p 97 (.Zt 3 91),p 9 (.Za 94),p 10 (.Za 95),p 11 (.Za 96),p 12 (.Za 97)]) (.seq (.Zi [0,2,12]) (.seq (.seq
 (.Zd [p 98 (.Za 12),p 99 (.un .not 98)]) (.cond 99 (.seq (.Zd [p 100 (.build [(.int .i64 0),(.int .i64 0),(.str [])] []),w0 (.store 3 2 100),p 3 (.Za (.k (.int .i64 5)))])
 .ret) .skip)) (.seq (.Zd [p 102 (.Za 0),w 103 (.call (.k (.fn 81 [] [])) [102]),p 101 (.Za 103),p 104 (.Zt 0 101),p 105 (.Zt 1 101),p 13 (.Za 104),p 14 (.Za 105)]) (.seq
 (.seq (.Zd [p 106 (.Za 14),p 107 (.bin .neq 106 (.k (.int .i64 0)))]) (.cond 107 (.seq (.Zd [p 108 (.build [(.int .i64 0),(.int .i64 0),(.str [])] []),w0 (.store 3 2 108),p
 3 (.Za (.k (.int .i64 26)))]) .ret) .skip)) (.seq (.Zd [p 109 (.Za 13),p 110 (.build [(.int .i64 0),(.int .i64 0),(.str [])] [(0,1,(.k (.int .i64 2))),(1,1,109)]),w0 (.store
 3 2 110),p 3 (.Za (.k (.int .i64 0)))]) .ret))))))))))))))⟩
def Bf:Z8:=⟨1,[.cell 2 (some 3),.t 3],(.seq (.Zd [n 2 (.alloc 134 true [(.int .i64 0),(.int .i64 0),(.str [])]),p 3 (.Za (.k (.int .i64 0)))]) (.seq (.seq (.Zd
 [p 6 (.Za 0),p 7 (.bin .eql 6 (.k (.str []))),p 8 (.Za 7),pg 9 8 false (.Za 0),wg 10 8 false (.call (.k (.fn 82 [] [])) [9]),pg 11 8 false (.un .not 10),p 12 (.pick 8 (.k (.bool
 true)) 11)]) (.cond 12 (.seq (.Zd [p 13 (.build [(.int .i64 0),(.int .i64 0),(.str [])] []),w0 (.store 3 2 13),p 3 (.Za (.k (.int .i64 5)))]) .ret) .skip)) (.seq (.Zi [0,2])
 (.seq (.seq (.Zd [p 15 (.Za 0),w 16 (.call (.k (.fn 63 [] [])) [15]),p 14 (.Za 16),p 17 (.Zt 0 14),p 18 (.Zt 1 14),n 4 (.alloc 134 true [(.int .i64 0),(.int .i64 0),(.str
 [])]),w0 (.store 3 4 17),p 5 (.Za 18)]) (.seq (.Zi [0,2,4,5]) (.seq (.Zd [p 19 (.Za 5),p 20 (.bin .neq 19 (.k (.int .i64 5)))]) (.cond 20 (.seq (.Zd [r 21 (.load (some 3)
 4),p 22 (.Za 5),w0 (.store 3 2 21),p 3 (.Za 22)]) .ret) .skip)))) (.seq (.Zi [0,2]) (.seq (.seq (.Zd [p 23 (.Za 0),p 24 (.lenOf true 23),p 25 (.bin .gtr 24 (.k (.int .i64
 100)))]) (.cond 25 (.seq (.Zd [p 26 (.build [(.int .i64 0),(.int .i64 0),(.str [])] []),w0 (.store 3 2 26),p 3 (.Za (.k (.int .i64 26)))]) .ret) .skip)) (.seq (.Zd [p 27 (.Za
 0),p 28 (.build [(.int .i64 0),(.int .i64 0),(.str [])] [(0,1,(.k (.int .i64 3))),(2,1,27)]),w0 (.store 3 2 28),p 3 (.Za (.k (.int .i64 0)))]) .ret)))))))⟩
def Ua:Z8:=⟨1,[.cell 2 (some 3),.t 3],(.seq (.Zd [n 2 (.alloc 134 true [(.int .i64 0),(.int .i64 0),(.str [])]),p 3 (.Za (.k (.int .i64 0)))]) (.seq (.seq
 (.Zd [p 6 (.Za 0),p 7 (.bin .eql 6 (.k (.str []))),p 8 (.Za 7),pg 9 8 false (.Za 0),wg 10 8 false (.call (.k (.fn 83 [] [])) [9]),pg 11 8 false (.un .not 10),p 12 (.pick 8
 (.k (.bool true)) 11)]) (.cond 12 (.seq (.Zd [p 13 (.build [(.int .i64 0),(.int .i64 0),(.str [])] []),w0 (.store 3 2 13),p 3 (.Za (.k (.int .i64 5)))]) .ret) .skip)) (.seq (.Zi
 [0,2]) (.seq (.Zd [p 15 (.Za 0),w 16 (.call (.k (.fn 64 [] [])) [15]),p 14 (.Za 16),p 17 (.Zt 0 14),p 18 (.Zt 1 14),n 4 (.alloc 134 true [(.int .i64 0),(.int .i64 0),
 (.str [])]),w0 (.store 3 4 17),p 5 (.Za 18)]) (.seq (.Zi [0,2,4,5]) (.seq (.seq (.Zd [p 19 (.Za 5),p 20 (.bin .neq 19 (.k (.int .i64 5)))]) (.cond 20 (.seq (.Zd [r 21 (.load
 (some 3) 4),p 22 (.Za 5),w0 (.store 3 2 21),p 3 (.Za 22)]) .ret) .skip)) (.seq (.seq (.Zd [p 23 (.Za 0),p 24 (.lenOf true 23),p 25 (.bin .gtr 24 (.k (.int .i64 100)))]) (.cond
 25 (.seq (.Zd [p 26 (.build [(.int .i64 0),(.int .i64 0),(.str [])] []),w0 (.store 3 2 26),p 3 (.Za (.k (.int .i64 26)))]) .ret) .skip)) (.seq (.Zd [p 27 (.Za 0),p 28 (.build
 [(.int .i64 0),(.int .i64 0),(.str [])] [(0,1,(.k (.int .i64 3))),(2,1,27)]),w0 (.store 3 2 28),p 3 (.Za (.k (.int .i64 0)))]) .ret))))))))⟩
def Y2:Z8:=⟨1,[.t 2],(.seq (.Zd [p 2 (.Za (.k (.bool false)))]) (.seq (.seq (.Zd [p 3 (.Za 0),p 4 (.bin .geq 3 (.k (.int .u8 128))),p 5 (.Za 4),pg 6 5 true
 (.Za 0),pg 7 5 true (.bin .lss 6 (.k (.int .u8 160))),p 8 (.pick 5 7 (.k (.bool false)))]) (.cond 8 (.seq (.Zd [p 2 (.Za (.k (.bool false)))]) .ret) .skip)) (.seq (.Zd [p 9 (.Za
 0),w 10 (.call (.k (.fn 84 [] [])) [(.k (.str [0,9,10,12,13,32,40,41,60,62,91,93,123,125,47,37])),9]),p 11 (.bin .lss 10 (.k (.int .i64 0))),p 2 (.Za 11)]) .ret)))⟩
def Jf:Z8:=⟨1,[.t 2],(.seq (.Zd [p 2 (.Za (.k (.bool false)))]) (.seq (.seq (.Zd [p 3 (.Za 0),w 4 (.call (.k (.fn 85 [] [])) [3]),p 5 (.Za 4),pg 6 5
 false (.Za 0),pg 7 5 false (.bin .geq 6 (.k (.int .u8 128))),pg 8 5 false (.Za 7),pg 9 8 true (.Za 0),pg 10 8 true (.bin .leq 9 (.k (.int .u8 159))),pg 11 5 false (.pick 8 10
 (.k (.bool false))),p 12 (.pick 5 (.k (.bool true)) 11)]) (.seq (.Zi [0,12]) (.cond 12 (.seq (.Zd [p 2 (.Za (.k (.bool false)))]) .ret) .skip))) (.seq (.Zi [0]) (.seq (.seq
 (.Zd [p 13 (.Za 0)]) (.block 0 (.seq (.seq (.Zd [p 15 (.bin .eql 13 (.k (.int .u8 40))),p 14 (.Za 15)]) (.cond 14 .skip (.seq (.Zd [p 16 (.bin .eql 13 (.k (.int .u8 41))),p 14
 (.Za 16)]) (.cond 14 .skip (.seq (.Zd [p 17 (.bin .eql 13 (.k (.int .u8 60))),p 14 (.Za 17)]) (.cond 14 .skip (.seq (.Zd [p 18 (.bin .eql 13 (.k (.int .u8 62))),p 14 (.Za 18)])
 (.cond 14 .skip (.seq (.Zd [p 19 (.bin .eql 13 (.k (.int .u8 91))),p 14 (.Za 19)]) (.cond 14 .skip (.seq (.Zd [p 20 (.bin .eql 13 (.k (.int .u8 93))),p 14 (.Za 20)]) (.cond 14
 .skip (.seq (.Zd [p 21 (.bin .eql 13 (.k (.int .u8 123))),p 14 (.Za 21)]) (.cond 14 .skip (.seq (.Zd [p 22 (.bin .eql 13 (.k (.int .u8 125))),p 14 (.Za 22)]) (.cond 14 .skip (.seq
 (.Zd [p 23 (.bin .eql 13 (.k (.int .u8 47))),p 14 (.Za 23)]) (.cond 14 .skip (.Zd [p 24 (.bin .eql 13 (.k (.int .u8 37))),p 14 (.Za 24)]))))))))))))))))))) (.seq (.Zi [14])
 (.cond 14 (.seq (.Zd [p 2 (.Za (.k (.bool false)))]) .ret) .skip))))) (.seq (.Zi []) (.seq (.Zd [p 2 (.Za (.k (.bool true)))]) .ret))))))⟩
def G5:Z8:=⟨1,[.t 2,.t 3,.t 4],(.seq (.Zd [p 2 (.Za (.k (.str []))),p 3 (.Za (.k (.int .i64 0))),p 4 (.Za (.k (.int .i64 0)))]) (.seq (.Zd [p 8 (.Za 0),p
 9 (.build [(.str []),(.int .i64 0)] [(0,1,8)]),p 10 (.build [(.str []),(.int .i64 0),.Zk,(.int .i64 0)] [(0,2,9)]),n 11 (.box 164 false 10),p 5 (.Za 11)]) (.seq (.seq
 (.Zd [p 13 (.Za 5),w 14 (.call (.k (.fn 86 [] [])) [13]),p 12 (.Za 14),p 15 (.Zt 0 12),p 16 (.Zt 1 12),p 6 (.Za 15),p 7 (.Za 16)]) (.seq (.Zd [p 17 (.Za 7),p 18 (.un
 .not 17),p 19 (.Za 18),pg 20 19 false (.Za 6),pg 21 19 false (.bin .neq 20 (.k (.int .u8 40))),p 22 (.pick 19 (.k (.bool true)) 21),p 23 (.Za 22),pg 24 23 false (.Za 5),wg
 25 23 false (.call (.k (.fn 87 [] [])) [24]),pg 26 23 false (.un .not 25),p 27 (.pick 23 (.k (.bool true)) 26)]) (.seq (.Zi [5,27]) (.cond 27 (.seq (.Zd [p 2 (.Za (.k (.str []))),
 p 3 (.Za (.k (.int .i64 0))),p 4 (.Za (.k (.int .i64 5)))]) .ret) .skip)))) (.seq (.Zi [5]) (.seq (.seq (.Zd [p 28 (.Za 5),p 29 (.Z6 28),p 30 (.Zj 2 29),r 31 (.load
 none 30),p 32 (.lenOf false 31),p 33 (.bin .gtr 32 (.k (.int .i64 1000)))]) (.cond 33 (.seq (.Zd [p 2 (.Za (.k (.str []))),p 3 (.Za (.k (.int .i64 0))),p 4 (.Za (.k (.int .i64
 26)))]) .ret) .skip)) (.seq (.Zi [5]) (.seq (.Y7 [.op 0 (p 34 (.Za 5)),.op 1 (p 35 (.Z6 34)),.op 2 (p 36 (.Zj 2 35)),.op 3 (r 37 (.load none 36)),.op 4 (r 38 (.b2s 37)),
 .op 5 (p 39 (.Za 5)),.op 6 (p 40 (.Z6 39)),.op 7 (p 41 (.Zj 0 40)),.op 8 (p 42 (.Zj 1 41)),.op 9 (r 43 (.load none 42)),.op 10 (p 2 (.Za 38)),.op 11 (p 3 (.Za 43)),
 .op 12 (p 4 (.Za (.k (.int .i64 0))))]) .ret)))))))⟩
def Qm:Zx:=(.seq (.Zi [0,5,6,7]) (.seq (.seq (.Zd [p 13 (.Za 7),p 14 (.Za 0),p 15 (.lenOf true 14),p 16 (.bin .lss 13 15)]) (.cond 16 .skip (.exit
 0))) (.block 1 (.seq (.seq (.Zd [p 17 (.Za 0),p 18 (.Za 7),p 19 (.Q4 17 18),p 20 (.bin .eql 19 (.k (.int .u8 41))),p 21 (.Za 20),pg 22 21 true (.Za 6),pg 23 21 true (.bin
 .eql 22 (.k (.int .i64 1))),p 24 (.pick 21 23 (.k (.bool false)))]) (.seq (.Zi [0,5,6,7,24]) (.cond 24 (.seq (.seq (.Zd [p 25 (.Za 5),p 26 (.lenOf false 25),p 27 (.bin .gtr
 26 (.k (.int .i64 1000)))]) (.cond 27 (.seq (.Zd [p 2 (.Za (.k (.str []))),p 3 (.Za (.k (.int .i64 0))),p 4 (.Za (.k (.int .i64 26)))]) .ret) .skip)) (.seq (.Zd [p 28 (.Za 5),
 r 29 (.b2s 28),p 30 (.Za 7),p 31 (.bin .add 30 (.k (.int .i64 1))),p 2 (.Za 29),p 3 (.Za 31),p 4 (.Za (.k (.int .i64 0)))]) .ret)) .skip))) (.seq (.Zi [0,5,6,7]) (.seq
 (.block 2 (.seq (.Zd [p 33 (.Za 0),p 34 (.Za 7),p 35 (.Q4 33 34),p 36 (.bin .eql 35 (.k (.int .u8 92))),p 32 (.Za 36)]) (.cond 32 (.seq (.seq (.Zd [p 37 (.Za 7),p 38 (.bin
 .add 37 (.k (.int .i64 1))),p 39 (.Za 0),p 40 (.lenOf true 39),p 41 (.bin .eql 38 40)]) (.cond 41 (.seq (.Zd [p 2 (.Za (.k (.str []))),p 3 (.Za (.k (.int .i64 0))),p 4 (.Za
 (.k (.int .i64 5)))]) .ret) .skip)) (.seq (.Zi [0,5,6,7]) (.seq (.Zd [p 43 (.Za 0),p 44 (.Za 7),w 45 (.call (.k (.fn 89 [] [])) [43,44]),p 42 (.Za 45),p 46 (.Zt 0 42),
 p 47 (.Zt 1 42),p 8 (.Za 46),p 9 (.Za 47)]) (.seq (.Zi [0,5,6,7,8,9]) (.seq (.Zd [p 48 (.Za 5),p 49 (.Za 8),w 50 (.append 5 1 1 [(.int .u8 0)] 48 49),p 5 (.Za 50)])
 (.seq (.Zd [p 51 (.Za 7),p 52 (.Za 9),p 53 (.bin .add 51 52),p 7 (.Za 53)]) (.exit 1))))))) (.seq (.Zd [p 55 (.Za 0),p 56 (.Za 7),w 57 (.call (.k (.fn 90 [] [])) [55,56]),
 p 58 (.bin .gtr 57 (.k (.int .i64 0))),p 54 (.Za 58)]) (.cond 54 (.seq (.Zd [p 59 (.Za 5),n 60 (.Qo 5 1 [(.int .u8 0)] [(0,1,(.k (.int .u8 10)))]),w 61 (.append 5 1 1 [(.int
 .u8 0)] 59 60),p 5 (.Za 61)]) (.seq (.Zd [p 62 (.Za 7),p 63 (.Za 0),p 64 (.Za 7),w 65 (.call (.k (.fn 90 [] [])) [63,64]),p 66 (.bin .add 62 65),p 7 (.Za 66)]) (.exit 1)))
 (.seq (.Zd [p 68 (.Za 0),p 69 (.Za 7),p 70 (.Q4 68 69),p 71 (.bin .eql 70 (.k (.int .u8 40))),p 67 (.Za 71)]) (.cond 67 (.Zd [p 72 (.Za 6),p 73 (.bin .add 72 (.k (.int
 .i64 1))),p 6 (.Za 73)]) (.seq (.Zd [p 75 (.Za 0),p 76 (.Za 7),p 77 (.Q4 75 76),p 78 (.bin .eql 77 (.k (.int .u8 41))),p 74 (.Za 78)]) (.cond 74 (.Zd [p 79 (.Za 6),p
 80 (.bin .sub 79 (.k (.int .i64 1))),p 6 (.Za 80)]) .skip))))))))) (.seq (.Zi [0,5,6,7]) (.seq (.Zd [p 81 (.Za 5),p 82 (.Za 0),p 83 (.Za 7),p 84 (.Q4 82 83),n 85 (.Qo
 5 1 [(.int .u8 0)] [(0,1,84)]),w 86 (.append 5 1 1 [(.int .u8 0)] 81 85),p 5 (.Za 86)]) (.Zd [p 87 (.Za 7),p 88 (.bin .add 87 (.k (.int .i64 1))),p 7 (.Za 88)])))))))))
def Vd:Z8:=⟨1,[.t 2,.t 3,.t 4],(.seq (.Zd [p 2 (.Za (.k (.str []))),p 3 (.Za (.k (.int .i64 0))),p 4 (.Za (.k (.int .i64 0)))]) (.seq (.seq (.Zd [p
 10 (.Za 0),w 11 (.call (.k (.fn 88 [] [])) [10,(.k (.int .i64 0))]),p 12 (.bin .neq 11 (.k (.int .u8 40)))]) (.cond 12 (.seq (.Zd [p 2 (.Za (.k (.str []))),p 3 (.Za (.k (.int
 .i64 0))),p 4 (.Za (.k (.int .i64 5)))]) .ret) .skip)) (.seq (.Zd [p 5 (.Za (.k .Zk))]) (.seq (.Zd [p 6 (.Za (.k (.int .i64 1)))]) (.seq (.seq (.Zd [p 7 (.Za (.k (.int
 .i64 1)))]) (.block 0 (.loop Qm))) (.seq (.Zi []) (.seq (.Zd [p 2 (.Za (.k (.str []))),p 3 (.Za (.k (.int .i64 0))),p 4 (.Za (.k (.int .i64 5)))]) .ret)))))))⟩
def Zoo:Zx:=(.seq (.Zi [0,3,5,6,9,10]) (.seq (.seq (.Zd [p 40 (.Za 6),p 41 (.bin .geq 40 (.k (.int .i64 0)))]) (.cond 41 .skip (.exit 3))) (.seq (.block 4
 (.Zd [p 44 (.Za 5),p 45 (.Za 6),p 46 (.bin .shr 44 45),p 47 (.bin .and 46 (.k (.int .u8 7))),p 48 (.bin .add (.k (.int .u8 48)) 47),w 49 (.call (.k (.fn 91 [] [])) [3,48])]))
 (.Zd [p 42 (.Za 6),p 43 (.bin .sub 42 (.k (.int .i64 3))),p 6 (.Za 43)]))))
def Zop:Zx:=(.seq (.Zi [0,3,9,10]) (.seq (.Zd [p 11 (.bin .lss 10 9)]) (.seq (.cond 11 .skip (.exit 0)) (.seq (.block 1 (.seq (.Zd [p 12 (.Za 10),p 4 (.Za
 12)]) (.seq (.Zd [p 13 (.Za 0),p 14 (.Za 4),p 15 (.Q4 13 14),p 5 (.Za 15)]) (.block 2 (.seq (.Zd [p 19 (.Za 5),p 20 (.bin .eql 19 (.k (.int .u8 40))),p 21 (.Za 20),pg
 22 21 false (.Za 5),pg 23 21 false (.bin .eql 22 (.k (.int .u8 41))),p 24 (.pick 21 (.k (.bool true)) 23),p 25 (.Za 24),pg 26 25 false (.Za 5),pg 27 25 false (.bin .eql 26 (.k
 (.int .u8 92))),p 28 (.pick 25 (.k (.bool true)) 27),p 18 (.Za 28)]) (.seq (.Zi [0,3,5,9,10,18]) (.cond 18 (.seq (.Zd [w 29 (.call (.k (.fn 91 [] [])) [3,(.k (.int .u8 92))])])
 (.Zd [p 30 (.Za 5),w 31 (.call (.k (.fn 91 [] [])) [3,30])])) (.seq (.Zd [p 33 (.Za 5),p 34 (.bin .lss 33 (.k (.int .u8 32))),p 35 (.Za 34),pg 36 35 false (.Za 5),pg 37
 35 false (.bin .gtr 36 (.k (.int .u8 126))),p 38 (.pick 35 (.k (.bool true)) 37),p 32 (.Za 38)]) (.cond 32 (.seq (.Zd [w 39 (.call (.k (.fn 91 [] [])) [3,(.k (.int .u8 92))])])
 (.seq (.Zd [p 6 (.Za (.k (.int .i64 6)))]) (.block 3 (.loop Zoo)))) (.Zd [p 16 (.Za 5),w 17 (.call (.k (.fn 91 [] [])) [3,16])])))))))))) (.seq (.Zi [0,3,9,10])
 (.Zd [p 50 (.bin .add 10 (.k (.int .i64 1))),p 10 (.Za 50)]))))))
def Zaj:Z8:=⟨1,[.t 2],(.seq (.Zd [p 2 (.Za (.k (.str [])))]) (.seq (.Zd [n 3 (.alloc 84 false [.Wa,.Zk])]) (.seq (.Zd [w 7 (.call (.k (.fn 91 [] [])) [3,
 (.k (.int .u8 40))])]) (.seq (.seq (.Zd [p 8 (.Za 0),p 9 (.lenOf true 8),p 10 (.Za (.k (.int .i64 0)))]) (.block 0 (.loop Zop))) (.seq (.Zi [3]) (.seq (.Zd [w 51 (.call
 (.k (.fn 91 [] [])) [3,(.k (.int .u8 41))])]) (.seq (.Zd [w 52 (.call (.k (.fn 92 [] [])) [3]),p 2 (.Za 52)]) .ret)))))))⟩
def Jx:Zx:=(.seq (.Zi [0,3,4]) (.seq (.seq (.Zd [p 7 (.Za 4),p 8 (.Za 0),p 9 (.lenOf true 8),p 10 (.bin .lss 7 9)]) (.cond 10 .skip (.exit 0))) (.seq
 (.block 1 (.seq (.Zd [p 13 (.Za 0),p 14 (.Za 4),p 15 (.Q4 13 14),p 5 (.Za 15)]) (.seq (.Zd [p 16 (.Za 5),p 17 (.bin .eql 16 (.k (.int .u8 40))),p 18 (.Za 17),pg 19 18
 false (.Za 5),pg 20 18 false (.bin .eql 19 (.k (.int .u8 41))),p 21 (.pick 18 (.k (.bool true)) 20),p 22 (.Za 21),pg 23 22 false (.Za 5),pg 24 22 false (.bin .eql 23 (.k (.int
 .u8 92))),p 25 (.pick 22 (.k (.bool true)) 24)]) (.seq (.Zi [0,3,4,5,25]) (.cond 25 (.Zd [p 26 (.Za 3),p 27 (.Za 5),n 28 (.Qo 5 2 [(.int .u8 0),(.int .u8 0)] [(0,
 1,(.k (.int .u8 92))),(1,1,27)]),w 29 (.append 5 1 1 [(.int .u8 0)] 26 28),p 3 (.Za 29)]) (.seq (.Zd [p 30 (.Za 5),p 31 (.bin .geq 30 (.k (.int .u8 32))),p 32 (.Za 31),
 pg 33 32 true (.Za 5),pg 34 32 true (.bin .leq 33 (.k (.int .u8 126))),p 35 (.pick 32 34 (.k (.bool false)))]) (.cond 35 (.Zd [p 36 (.Za 3),p 37 (.Za 5),n 38 (.Qo 5 1 [(.int
 .u8 0)] [(0,1,37)]),w 39 (.append 5 1 1 [(.int .u8 0)] 36 38),p 3 (.Za 39)]) (.Zd [p 40 (.Za 3),p 41 (.Za 5),p 42 (.bin .quo 41 (.k (.int .u8 64))),p 43 (.bin .add (.k (.int
 .u8 48)) 42),p 44 (.Za 5),p 45 (.bin .quo 44 (.k (.int .u8 8))),p 46 (.bin .rem 45 (.k (.int .u8 8))),p 47 (.bin .add (.k (.int .u8 48)) 46),p 48 (.Za 5),p 49 (.bin .rem 48
 (.k (.int .u8 8))),p 50 (.bin .add (.k (.int .u8 48)) 49),n 51 (.Qo 5 4 [(.int .u8 0),(.int .u8 0),(.int .u8 0),(.int .u8 0)] [(0,1,(.k (.int .u8 92))),(1,1,43),(2,
 1,47),(3,1,50)]),w 52 (.append 5 1 1 [(.int .u8 0)] 40 51),p 3 (.Za 52)])))))))) (.seq (.Zi [0,3,4]) (.Zd [p 11 (.Za 4),p 12 (.bin .add 11 (.k (.int .i64 1))),p 4 (.Za
 12)])))))
def Uv:Z8:=⟨1,[.t 2],(.seq (.Zd [p 2 (.Za (.k (.str [])))]) (.seq (.Zd [n 6 (.Qo 5 1 [(.int .u8 0)] [(0,1,(.k (.int .u8 40)))]),p 3 (.Za 6)]) (.seq
 (.seq (.Zd [p 4 (.Za (.k (.int .i64 0)))]) (.block 0 (.loop Jx))) (.seq (.Zi [3]) (.seq (.Zd [p 53 (.Za 3),n 54 (.Qo 5 1 [(.int .u8 0)] [(0,1,(.k (.int
 .u8 41)))]),w 55 (.append 5 1 1 [(.int .u8 0)] 53 54),r 56 (.b2s 55),p 2 (.Za 56)]) .ret)))))⟩
def N8:Z8:=⟨1,[.t 2],(.seq (.Zd [n 1 (.box 134 true 0),p 2 (.Za (.k (.int .i64 0)))]) (.seq (.seq (.Zd [r 3 (.load (some 3) 1),w 4 (.call (.k (.fn 93 [] [])) [3]),
 p 5 (.un .not 4)]) (.cond 5 (.seq (.Zd [p 2 (.Za (.k (.int .i64 130)))]) .ret) .skip)) (.seq (.Zd [p 2 (.Za (.k (.int .i64 0)))]) .ret)))⟩
def V0:Z8:=⟨1,[.cell 2 (some 3),.t 3],(.seq (.Zd [n 2 (.alloc 134 true [(.int .i64 0),(.int .i64 0),(.str [])]),p 3 (.Za (.k (.int .i64 0)))]) (.seq (.Zd
 [p 8 (.Za 0),p 4 (.Za 8),p 5 (.Za (.k (.int .i64 1)))]) (.seq (.seq (.Zd [p 9 (.Za 4),w 10 (.call (.k (.fn 94 [] [])) [9,(.k (.str [45]))])]) (.cond 10 (.Zd [p 5 (.Za (.k
 (.int .i64 (-1))))]) .skip)) (.seq (.seq (.Zd [p 11 (.Za 4),p 12 (.bin .neq 11 (.k (.str []))),p 13 (.Za 12),pg 14 13 true (.Za 4),pg 15 13 true (.Q4 14 (.k (.int .i64 0))),
 pg 16 13 true (.bin .eql 15 (.k (.int .u8 45))),pg 17 13 true (.Za 16),pg 18 17 false (.Za 4),pg 19 17 false (.Q4 18 (.k (.int .i64 0))),pg 20 17 false (.bin .eql 19 (.k (.int
 .u8 43))),pg 21 13 true (.pick 17 (.k (.bool true)) 20),p 22 (.pick 13 21 (.k (.bool false)))]) (.seq (.Zi [0,2,4,5,22]) (.cond 22 (.Zd [p 23 (.Za 4),p 24 (.Lg 23 (some
 (.k (.int .i64 1))) none),p 4 (.Za 24)]) .skip))) (.seq (.Zi [0,2,4,5]) (.seq (.Zd [p 26 (.Za 4),w 27 (.call (.k (.fn 95 [] [])) [26,(.k (.int .i64 10))]),p 25 (.Za 27),
 p 28 (.Zt 0 25),p 29 (.Zt 1 25),p 6 (.Za 28),p 7 (.Za 29)]) (.seq (.seq (.Zd [p 30 (.Za 7),p 31 (.un .not 30)]) (.cond 31 (.seq (.Zd [p 32 (.build [(.int .i64 0),(.int
 .i64 0),(.str [])] []),w0 (.store 3 2 32),p 3 (.Za (.k (.int .i64 5)))]) .ret) .skip)) (.seq (.Zd [p 33 (.Za 0),p 34 (.Za 5),p 35 (.Za 6),p 36 (.bin .mul 34 35),w 37 (.call
 (.k (.fn 96 [] [])) [33,36]),p 38 (.Zt 0 37),p 39 (.Zt 1 37),w0 (.store 3 2 38),p 3 (.Za 39)]) .ret))))))))⟩
def Vz:Z8:=⟨1,[.cell 2 (some 3),.t 3],(.seq (.Zd [n 2 (.alloc 134 true [(.int .i64 0),(.int .i64 0),(.str [])]),p 3 (.Za (.k (.int .i64 0)))]) (.seq (.Zd
 [p 11 (.Za 0),w 12 (.call (.k (.fn 97 [] [])) [11,(.k (.str [35]))]),p 10 (.Za 12),p 13 (.Zt 0 10),p 14 (.Zt 1 10),p 15 (.Zt 2 10),p 4 (.Za 13),p 5 (.Za 14),p 6 (.Za
 15)]) (.seq (.Zi [0,2,4,5,6]) (.seq (.Zd [p 17 (.Za 4),w 18 (.call (.k (.fn 95 [] [])) [17,(.k (.int .i64 10))]),p 16 (.Za 18),p 19 (.Zt 0 16),p 20 (.Zt 1 16),p 7
 (.Za 19),p 8 (.Za 20)]) (.seq (.seq (.Zd [p 21 (.Za 6),p 22 (.un .not 21),p 23 (.Za 22),pg 24 23 false (.Za 8),pg 25 23 false (.un .not 24),p 26 (.pick 23 (.k (.bool true))
 25),p 27 (.Za 26),pg 28 27 false (.Za 4),pg 29 27 false (.lenOf true 28),pg 30 27 false (.bin .gtr 29 (.k (.int .i64 2))),p 31 (.pick 27 (.k (.bool true)) 30),p 32 (.Za 31),
 pg 33 32 false (.Za 7),pg 34 32 false (.bin .lss 33 (.k (.int .i64 2))),p 35 (.pick 32 (.k (.bool true)) 34),p 36 (.Za 35),pg 37 36 false (.Za 7),pg 38 36 false (.bin .gtr 37
 (.k (.int .i64 36))),p 39 (.pick 36 (.k (.bool true)) 38)]) (.seq (.Zi [0,2,5,7,39]) (.cond 39 (.seq (.Zd [p 40 (.build [(.int .i64 0),(.int .i64 0),(.str [])] []),w0 (.store
 3 2 40),p 3 (.Za (.k (.int .i64 5)))]) .ret) .skip))) (.seq (.Zi [0,2,5,7]) (.seq (.Zd [p 42 (.Za 5),p 43 (.Za 7),w 44 (.call (.k (.fn 95 [] [])) [42,43]),p 41 (.Za 44),
 p 45 (.Zt 0 41),p 46 (.Zt 1 41),p 9 (.Za 45),p 8 (.Za 46)]) (.seq (.Zi [0,2,8,9]) (.seq (.seq (.Zd [p 47 (.Za 8),p 48 (.un .not 47)]) (.cond 48 (.seq (.Zd [p 49 (.build
 [(.int .i64 0),(.int .i64 0),(.str [])] []),w0 (.store 3 2 49),p 3 (.Za (.k (.int .i64 5)))]) .ret) .skip)) (.seq (.Zd [p 50 (.Za 0),p 51 (.Za 9),w 52 (.call (.k (.fn 96 []
 [])) [50,51]),p 53 (.Zt 0 52),p 54 (.Zt 1 52),w0 (.store 3 2 53),p 3 (.Za 54)]) .ret))))))))))⟩
def Yx:Z8:=⟨1,[.cell 2 (some 3),.t 3],(.seq (.Zd [n 2 (.alloc 134 true [(.int .i64 0),(.int .i64 0),(.str [])]),p 3 (.Za (.k (.int .i64 0)))]) (.seq (.seq
 (.Zd [p 6 (.Za 0),w 7 (.call (.k (.fn 98 [] [])) [6,(.k (.str [46,101,69]))]),p 8 (.un .not 7),p 9 (.Za 8),pg 10 9 false (.Za 0),wg 11 9 false (.call (.k (.fn 99 [] []))
 [10]),pg 12 9 false (.un .not 11),p 13 (.pick 9 (.k (.bool true)) 12)]) (.seq (.Zi [0,2,13]) (.cond 13 (.seq (.Zd [p 14 (.build [(.int .i64 0),(.int .i64 0),(.str [])] []),
 w0 (.store 3 2 14),p 3 (.Za (.k (.int .i64 5)))]) .ret) .skip))) (.seq (.Zi [0,2]) (.seq (.Zd [p 16 (.Za 0),w 17 (.call (.k (.fn 100 [] [])) [16]),p 15 (.Za 17),p 18 (.Zt
 0 15),p 19 (.Zt 1 15),p 4 (.Za 18),p 5 (.Za 19)]) (.seq (.seq (.Zd [p 20 (.Za 5),p 21 (.bin .neq 20 (.k (.int .i64 0)))]) (.cond 21 (.seq (.Zd [p 22 (.build [(.int .i64 0),
 (.int .i64 0),(.str [])] []),w0 (.store 3 2 22),p 3 (.Za (.k (.int .i64 26)))]) .ret) .skip)) (.seq (.Zd [p 23 (.Za 4),p 24 (.build [(.int .i64 0),(.int .i64 0),(.str [])]
 [(0,1,(.k (.int .i64 2))),(1,1,23)]),w0 (.store 3 2 24),p 3 (.Za (.k (.int .i64 0)))]) .ret))))))⟩
def Xv:Zx:=(.seq (.Zi [0,1,5,6]) (.seq (.seq (.Zd [p 9 (.Za 6),p 10 (.Za 0),p 11 (.lenOf true 10),p 12 (.bin .lss 9 11)]) (.cond 12 .skip (.exit 0)))
 (.seq (.block 1 (.seq (.seq (.Zd [p 15 (.Za 0),p 16 (.Za 6),p 17 (.Q4 15 16),w 18 (.call (.k (.fn 101 [] [])) [17]),p 19 (.Za 1),p 20 (.bin .geq 18 19)]) (.cond 20 (.seq
 (.Zd [p 4 (.Za (.k (.int .i64 (-1))))]) .ret) .skip)) (.Zd [p 21 (.Za 5),p 22 (.Za 1),p 23 (.bin .mul 21 22),p 24 (.Za 0),p 25 (.Za 6),p 26 (.Q4 24 25),w 27 (.call (.k
 (.fn 101 [] [])) [26]),p 28 (.bin .add 23 27),p 29 (.Dy false [28,(.k (.int .i64 8589934592))]),p 5 (.Za 29)]))) (.seq (.Zi [0,1,5,6]) (.Zd [p 13 (.Za 6),p 14 (.bin
 .add 13 (.k (.int .i64 1))),p 6 (.Za 14)])))))
def Kh:Z8:=⟨2,[.t 4],(.seq (.Zd [p 4 (.Za (.k (.int .i64 0)))]) (.seq (.seq (.Zd [p 7 (.Za 0),p 8 (.bin .eql 7 (.k (.str [])))]) (.cond 8 (.seq (.Zd [p 4
 (.Za (.k (.int .i64 (-1))))]) .ret) .skip)) (.seq (.Zd [p 5 (.Za (.k (.int .i64 0)))]) (.seq (.seq (.Zd [p 6 (.Za (.k (.int .i64 0)))]) (.block 0 (.loop Xv)))
 (.seq (.Zi [5]) (.seq (.Zd [p 30 (.Za 5),p 4 (.Za 30)]) .ret))))))⟩
def Ju:Z8:=⟨2,[.cell 4 (some 3),.t 5],(.seq (.Zd [n 4 (.alloc 134 true [(.int .i64 0),(.int .i64 0),(.str [])]),p 5 (.Za (.k (.int .i64 0)))]) (.seq (.seq
 (.Zd [p 6 (.Za 1),p 7 (.bin .gtr 6 (.k (.int .i64 40))),p 8 (.Za 7),pg 9 8 false (.Za 0),pg 10 8 false (.bin .lss 9 (.k (.int .i64 (-2147483648)))),p 11 (.pick 8 (.k (.bool
 true)) 10),p 12 (.Za 11),pg 13 12 false (.Za 0),pg 14 12 false (.bin .gtr 13 (.k (.int .i64 2147483647))),p 15 (.pick 12 (.k (.bool true)) 14)]) (.seq (.Zi [0,4,15]) (.cond
 15 (.seq (.Zd [p 16 (.build [(.int .i64 0),(.int .i64 0),(.str [])] []),w0 (.store 3 4 16),p 5 (.Za (.k (.int .i64 26)))]) .ret) .skip))) (.seq (.Zi [0,4]) (.seq (.Zd [p 17
 (.Za 0),p 18 (.build [(.int .i64 0),(.int .i64 0),(.str [])] [(0,1,(.k (.int .i64 1))),(1,1,17)]),w0 (.store 3 4 18),p 5 (.Za (.k (.int .i64 0)))]) .ret))))⟩
def U5:Zx:=(.seq (.Zi [0,6,7,8,9,10]) (.seq (.seq (.Zd [p 35 (.Za 6),p 36 (.Za 0),p 37 (.lenOf true 36),p 38 (.bin .lss 35 37),p 39 (.Za 38),pg
 40 39 true (.Za 0),pg 41 39 true (.Za 6),pg 42 39 true (.Q4 40 41),wg 43 39 true (.call (.k (.fn 102 [] [])) [42]),pg 44 39 true (.Za 43),pg 45 44 false (.Za 0),pg 46 44
 false (.Za 6),pg 47 44 false (.Q4 45 46),pg 48 44 false (.bin .eql 47 (.k (.int .u8 46))),pg 49 44 false (.Za 48),pg 50 49 true (.Za 10),pg 51 49 true (.un .not 50),pg 52
 44 false (.pick 49 51 (.k (.bool false))),pg 53 39 true (.pick 44 (.k (.bool true)) 52),p 54 (.pick 39 53 (.k (.bool false)))]) (.cond 54 .skip (.exit 0))) (.seq (.Zi [0,6,7,
 8,9,10]) (.block 1 (.seq (.seq (.Zd [p 55 (.Za 0),p 56 (.Za 6),p 57 (.Q4 55 56),p 58 (.bin .eql 57 (.k (.int .u8 46)))]) (.cond 58 (.Zd [p 10 (.Za (.k (.bool true)))]) (.seq
 (.Zd [p 59 (.Za 8),p 60 (.Za 0),p 61 (.Za 6),p 62 (.Q4 60 61),p 63 (.bin .sub 62 (.k (.int .u8 48))),p 64 (.conv .i64 63),n 65 (.Qo 3 1 [(.int .i64 0)] [(0,1,64)]),
 w 66 (.append 3 1 8 [(.int .i64 0)] 59 65),p 8 (.Za 66)]) (.seq (.Zi [0,6,7,8,9,10]) (.seq (.Zd [p 67 (.Za 10)]) (.cond 67 (.Zd [p 68 (.Za 9),p 69 (.bin .sub 68 (.k (.int
 .i64 1))),p 9 (.Za 69)]) .skip)))))) (.seq (.Zi [0,6,7,8,9,10]) (.Zd [p 70 (.Za 6),p 71 (.bin .add 70 (.k (.int .i64 1))),p 6 (.Za 71)])))))))
def L0:Zx:=(.seq (.Zi [0,6,7,8,9,11,12]) (.seq (.seq (.Zd [p 128 (.Za 6),p 129 (.Za 0),p 130 (.lenOf true 129),p 131 (.bin .lss 128 130)]) (.cond
 131 .skip (.exit 2))) (.block 3 (.seq (.seq (.Zd [p 132 (.Za 0),p 133 (.Za 6),p 134 (.Q4 132 133),w 135 (.call (.k (.fn 102 [] [])) [134]),p 136 (.un .not 135)]) (.cond 136
 (.seq (.Zd [p 2 (.Za (.k (.int .i64 0))),p 3 (.Za (.k .Zk)),p 4 (.Za (.k (.int .i64 0))),p 5 (.Za (.k (.bool false)))]) .ret) .skip)) (.seq (.Zi [0,6,7,8,9,11,
 12]) (.seq (.Zd [p 137 (.Za 12),p 138 (.bin .mul (.k (.int .i64 10)) 137),p 139 (.Za 0),p 140 (.Za 6),p 141 (.Q4 139 140),p 142 (.bin .sub 141 (.k (.int .u8 48))),p 143
 (.conv .i64 142),p 144 (.bin .add 138 143),p 12 (.Za 144)]) (.seq (.Zi [0,6,7,8,9,11,12]) (.Zd [p 145 (.Za 6),p 146 (.bin .add 145 (.k (.int .i64 1))),p 6 (.Za 146)]))))))))
def Zu:Z8:=⟨1,[.t 2,.t 3,.t 4,.t 5],(.seq (.Zd [p 2 (.Za (.k (.int .i64 0))),p 3 (.Za (.k .Zk)),p 4 (.Za (.k (.int .i64 0))),p 5 (.Za (.k (.bool
 false)))]) (.seq (.Zd [p 6 (.Za (.k (.int .i64 0))),p 7 (.Za (.k (.int .i64 1)))]) (.seq (.seq (.Zd [p 13 (.Za 6),p 14 (.Za 0),p 15 (.lenOf true 14),p 16 (.bin .lss 13 15),
 p 17 (.Za 16),pg 18 17 true (.Za 0),pg 19 17 true (.Za 6),pg 20 17 true (.Q4 18 19),pg 21 17 true (.bin .eql 20 (.k (.int .u8 43))),pg 22 17 true (.Za 21),pg 23 22 false
 (.Za 0),pg 24 22 false (.Za 6),pg 25 22 false (.Q4 23 24),pg 26 22 false (.bin .eql 25 (.k (.int .u8 45))),pg 27 17 true (.pick 22 (.k (.bool true)) 26),p 28 (.pick 17 27 (.k
 (.bool false)))]) (.seq (.Zi [0,6,7,28]) (.cond 28 (.seq (.seq (.Zd [p 29 (.Za 0),p 30 (.Za 6),p 31 (.Q4 29 30),p 32 (.bin .eql 31 (.k (.int .u8 45)))]) (.cond 32 (.Zd
 [p 7 (.Za (.k (.int .i64 (-1))))]) .skip)) (.Zd [p 33 (.Za 6),p 34 (.bin .add 33 (.k (.int .i64 1))),p 6 (.Za 34)])) .skip))) (.seq (.Zi [0,6,7]) (.seq (.Zd [p 8 (.Za (.k
 .Zk))]) (.seq (.Zd [p 9 (.Za (.k (.int .i64 0))),p 10 (.Za (.k (.bool false)))]) (.seq (.block 0 (.loop U5)) (.seq (.Zi [0,6,7,8,9]) (.seq (.seq (.Zd
 [p 72 (.Za 8),p 73 (.lenOf false 72),p 74 (.bin .eql 73 (.k (.int .i64 0)))]) (.cond 74 (.seq (.Zd [p 2 (.Za (.k (.int .i64 0))),p 3 (.Za (.k .Zk)),p 4 (.Za (.k (.int
 .i64 0))),p 5 (.Za (.k (.bool false)))]) .ret) .skip)) (.seq (.seq (.Zd [p 75 (.Za 6),p 76 (.Za 0),p 77 (.lenOf true 76),p 78 (.bin .eql 75 77)]) (.cond 78 (.seq (.Zd [p 79
 (.Za 7),p 80 (.Za 8),p 81 (.Za 9),p 2 (.Za 79),p 3 (.Za 80),p 4 (.Za 81),p 5 (.Za (.k (.bool true)))]) .ret) .skip)) (.seq (.Zi [0,6,7,8,9]) (.seq (.seq (.Zd [p
 82 (.Za 0),p 83 (.Za 6),p 84 (.Q4 82 83),p 85 (.bin .neq 84 (.k (.int .u8 101))),p 86 (.Za 85),pg 87 86 true (.Za 0),pg 88 86 true (.Za 6),pg 89 86 true (.Q4 87 88),
 pg 90 86 true (.bin .neq 89 (.k (.int .u8 69))),p 91 (.pick 86 90 (.k (.bool false)))]) (.seq (.Zi [0,6,7,8,9,91]) (.cond 91 (.seq (.Zd [p 2 (.Za (.k (.int .i64 0))),p 3
 (.Za (.k .Zk)),p 4 (.Za (.k (.int .i64 0))),p 5 (.Za (.k (.bool false)))]) .ret) .skip))) (.seq (.Zi [0,6,7,8,9]) (.seq (.Zd [p 92 (.Za 6),p 93 (.bin .add 92 (.k
 (.int .i64 1))),p 6 (.Za 93)]) (.seq (.Zd [p 11 (.Za (.k (.bool false)))]) (.seq (.seq (.Zd [p 94 (.Za 6),p 95 (.Za 0),p 96 (.lenOf true 95),p 97 (.bin .lss 94 96),p 98 (.Za
 97),pg 99 98 true (.Za 0),pg 100 98 true (.Za 6),pg 101 98 true (.Q4 99 100),pg 102 98 true (.bin .eql 101 (.k (.int .u8 43))),pg 103 98 true (.Za 102),pg 104 103 false (.Za
 0),pg 105 103 false (.Za 6),pg 106 103 false (.Q4 104 105),pg 107 103 false (.bin .eql 106 (.k (.int .u8 45))),pg 108 98 true (.pick 103 (.k (.bool true)) 107),p 109 (.pick
 98 108 (.k (.bool false)))]) (.seq (.Zi [0,6,7,8,9,11,109]) (.cond 109 (.seq (.Zd [p 110 (.Za 0),p 111 (.Za 6),p 112 (.Q4 110 111),p 113 (.bin .eql 112 (.k (.int .u8
 45))),p 11 (.Za 113)]) (.Zd [p 114 (.Za 6),p 115 (.bin .add 114 (.k (.int .i64 1))),p 6 (.Za 115)])) .skip))) (.seq (.Zi [0,6,7,8,9,11]) (.seq (.seq (.Zd [p 116 (.Za
 0),p 117 (.lenOf true 116),p 118 (.Za 6),p 119 (.bin .sub 117 118),p 120 (.bin .lss 119 (.k (.int .i64 1))),p 121 (.Za 120),pg 122 121 false (.Za 0),pg 123 121 false (.lenOf
 true 122),pg 124 121 false (.Za 6),pg 125 121 false (.bin .sub 123 124),pg 126 121 false (.bin .gtr 125 (.k (.int .i64 3))),p 127 (.pick 121 (.k (.bool true)) 126)]) (.seq (.Zi
 [0,6,7,8,9,11,127]) (.cond 127 (.seq (.Zd [p 2 (.Za (.k (.int .i64 0))),p 3 (.Za (.k .Zk)),p 4 (.Za (.k (.int .i64 0))),p 5 (.Za (.k (.bool false)))]) .ret) .skip)))
 (.seq (.Zi [0,6,7,8,9,11]) (.seq (.Zd [p 12 (.Za (.k (.int .i64 0)))]) (.seq (.block 2 (.loop L0)) (.seq (.Zi [7,8,9,11,12]) (.seq (.seq (.Zd [p 147
 (.Za 11)]) (.cond 147 (.Zd [p 148 (.Za 12),p 149 (.un .neg 148),p 12 (.Za 149)]) .skip)) (.seq (.Zd [p 150 (.Za 7),p 151 (.Za 8),p 152 (.Za 9),p 153 (.Za 12),p 154 (.bin
 .add 152 153),p 2 (.Za 150),p 3 (.Za 151),p 4 (.Za 154),p 5 (.Za (.k (.bool true)))]) .ret))))))))))))))))))))))))⟩
def Q9:Zx:=(.seq (.Zi [4,6,8,9,10,11]) (.seq (.seq (.Zd [p 28 (.Za 11),p 29 (.Za 8),p 30 (.lenOf false 29),p 31 (.Za 6),p 32 (.Dy true [31,
 (.k (.int .i64 0))]),p 33 (.bin .add 30 32),p 34 (.bin .lss 28 33)]) (.cond 34 .skip (.exit 0))) (.seq (.block 1 (.seq (.Zd [p 12 (.Za (.k (.int .i64 0)))]) (.seq (.seq (.Zd [p
 37 (.Za 11),p 38 (.Za 8),p 39 (.lenOf false 38),p 40 (.bin .lss 37 39)]) (.cond 40 (.Zd [p 41 (.Za 8),p 42 (.Za 11),p 43 (.Vn 1 41 42),r 44 (.load none 43),p 12 (.Za
 44)]) .skip)) (.seq (.Zi [4,6,8,9,10,11,12]) (.seq (.Zd [p 45 (.Za 11),p 46 (.Za 8),p 47 (.lenOf false 46),p 48 (.Za 6),p 49 (.bin .add 47 48),p 50 (.bin .lss 45 49)])
 (.cond 50 (.Zd [p 51 (.Za 9),p 52 (.bin .mul (.k (.int .i64 10)) 51),p 53 (.Za 12),p 54 (.bin .add 52 53),p 55 (.Dy false [54,(.k (.int .i64 1099511627776))]),p 9 (.Za
 55)]) (.Zd [p 56 (.Za 10),p 57 (.Za 56),pg 58 57 false (.Za 12),pg 59 57 false (.bin .neq 58 (.k (.int .i64 0))),p 60 (.pick 57 (.k (.bool true)) 59),p 10 (.Za 60)])))))))
 (.seq (.Zi [4,6,8,9,10,11]) (.Zd [p 35 (.Za 11),p 36 (.bin .add 35 (.k (.int .i64 1))),p 11 (.Za 36)])))))
def Y9:Z8:=⟨1,[.t 2,.t 3],(.seq (.Zd [p 2 (.Za (.k (.int .i64 0))),p 3 (.Za (.k (.int .i64 0)))]) (.seq (.seq (.Zd [p 14 (.Za 0),p 15 (.lenOf true 14),
 p 16 (.bin .gtr 15 (.k (.int .i64 40)))]) (.cond 16 (.seq (.Zd [p 2 (.Za (.k (.int .i64 0))),p 3 (.Za (.k (.int .i64 3)))]) .ret) .skip)) (.seq (.Zd [p 18 (.Za 0),w 19 (.call
 (.k (.fn 80 [] [])) [18]),p 17 (.Za 19),p 20 (.Zt 0 17),p 21 (.Zt 1 17),p 22 (.Zt 2 17),p 23 (.Zt 3 17),p 4 (.Za 20),p 5 (.Za 21),p 6 (.Za 22),p 7 (.Za 23)]) (.seq
 (.Zi [4,5,6,7]) (.seq (.seq (.Zd [p 24 (.Za 7),p 25 (.un .not 24)]) (.cond 25 (.seq (.Zd [p 2 (.Za (.k (.int .i64 0))),p 3 (.Za (.k (.int .i64 5)))]) .ret) .skip)) (.seq
 (.Zd [p 26 (.Za 5),w 27 (.call (.k (.fn 103 [] [])) [26]),p 8 (.Za 27)]) (.seq (.Zd [p 9 (.Za (.k (.int .i64 0))),p 10 (.Za (.k (.bool false)))]) (.seq (.seq (.Zd [p 11 (.Za
 (.k (.int .i64 0)))]) (.block 0 (.loop Q9))) (.seq (.Zi [4,9,10]) (.seq (.Zd [p 61 (.Za 9),p 13 (.Za 61)]) (.seq (.seq (.Zd [p 62 (.Za 4),p 63 (.bin .lss
 62 (.k (.int .i64 0)))]) (.cond 63 (.seq (.Zd [p 64 (.Za 9),p 65 (.un .neg 64),p 13 (.Za 65)]) (.seq (.Zd [p 66 (.Za 10)]) (.cond 66 (.Zd [p 67 (.Za 13),p 68 (.bin .sub 67
 (.k (.int .i64 1))),p 13 (.Za 68)]) .skip))) .skip)) (.seq (.Zi [13]) (.seq (.Zd [p 69 (.Za 13),p 70 (.bin .add 69 (.k (.int .i64 1))),w 71 (.call (.k (.fn 104 [] [])) [70,
 (.k (.int .i64 2))]),p 9 (.Za 71)]) (.seq (.seq (.Zd [p 72 (.Za 9),w 73 (.call (.k (.fn 105 [] [])) [72]),p 74 (.un .not 73)]) (.cond 74 (.seq (.Zd [p 2 (.Za (.k (.int .i64
 0))),p 3 (.Za (.k (.int .i64 6)))]) .ret) .skip)) (.seq (.Zd [p 75 (.Za 9),p 2 (.Za 75),p 3 (.Za (.k (.int .i64 0)))]) .ret)))))))))))))))⟩
def Hv:Zx:=(.seq (.Zi [0,5,6]) (.seq (.Zd [p 7 (.bin .lss 6 5)]) (.seq (.cond 7 .skip (.exit 0)) (.seq (.block 1 (.seq (.Zd [p 8 (.Za 6),p 3 (.Za 8)]) (.seq
 (.Zd [p 9 (.Za 0),p 10 (.Za 3),p 11 (.Q4 9 10),w 12 (.call (.k (.fn 67 [] [])) [11]),p 13 (.un .not 12)]) (.cond 13 (.seq (.Zd [p 2 (.Za (.k (.bool false)))]) .ret) .skip))))
 (.seq (.Zi [0,5,6]) (.Zd [p 14 (.bin .add 6 (.k (.int .i64 1))),p 6 (.Za 14)]))))))
def Ll:Z8:=⟨1,[.t 2],(.seq (.Zd [p 2 (.Za (.k (.bool false)))]) (.seq (.seq (.Zd [p 4 (.Za 0),p 5 (.lenOf true 4),p 6 (.Za (.k (.int .i64 0)))]) (.block 0 (.loop
 Hv))) (.seq (.Zi []) (.seq (.Zd [p 2 (.Za (.k (.bool true)))]) .ret))))⟩
def M6:Zx:=(.seq (.Zi [0,3]) (.seq (.seq (.Zd [p 4 (.Za 3),p 5 (.Za 0),p 6 (.lenOf true 5),p 7 (.bin .lss 4 6)]) (.cond 7 .skip (.exit 0))) (.seq (.block
 1 (.seq (.Zd [p 10 (.Za 0),p 11 (.Za 3),p 12 (.Q4 10 11),w 13 (.call (.k (.fn 68 [] [])) [12]),p 14 (.un .not 13)]) (.cond 14 (.seq (.Zd [p 2 (.Za (.k (.bool false)))]) .ret)
 .skip))) (.Zd [p 8 (.Za 3),p 9 (.bin .add 8 (.k (.int .i64 1))),p 3 (.Za 9)]))))
def Kz:Z8:=⟨1,[.t 2],(.seq (.Zd [p 2 (.Za (.k (.bool false)))]) (.seq (.seq (.Zd [p 3 (.Za (.k (.int .i64 0)))]) (.block 0 (.loop M6))) (.seq
 (.Zi []) (.seq (.Zd [p 2 (.Za (.k (.bool true)))]) .ret))))⟩
def Qs:Z8:=⟨1,[.t 2],(.seq (.Zd [p 2 (.Za (.k (.bool false)))]) (.seq (.Zd [p 3 (.Za 0),p 4 (.bin .eql 3 (.k (.int .u8 0))),p 5 (.Za 4),pg 6 5 false (.Za
 0),pg 7 5 false (.bin .eql 6 (.k (.int .u8 9))),p 8 (.pick 5 (.k (.bool true)) 7),p 9 (.Za 8),pg 10 9 false (.Za 0),pg 11 9 false (.bin .eql 10 (.k (.int .u8 10))),p 12 (.pick
 9 (.k (.bool true)) 11),p 13 (.Za 12),pg 14 13 false (.Za 0),pg 15 13 false (.bin .eql 14 (.k (.int .u8 12))),p 16 (.pick 13 (.k (.bool true)) 15),p 17 (.Za 16),pg 18 17 false
 (.Za 0),pg 19 17 false (.bin .eql 18 (.k (.int .u8 13))),p 20 (.pick 17 (.k (.bool true)) 19),p 21 (.Za 20),pg 22 21 false (.Za 0),pg 23 21 false (.bin .eql 22 (.k (.int .u8
 32))),p 24 (.pick 21 (.k (.bool true)) 23),p 2 (.Za 24)]) .ret))⟩
def Jr:Z8:=⟨1,[.t 2,.t 3],(.seq (.Zd [p 2 (.Za (.k (.int .u8 0))),p 3 (.Za (.k (.bool false)))]) (.seq (.seq (.Y7 [.op 0 (p 4 (.Za 0)),.op 1 (p 5 (.Z6
 4)),.op 2 (p 6 (.Zj 0 5)),.op 3 (p 7 (.Zj 1 6)),.op 4 (r 8 (.load none 7)),.op 5 (p 9 (.Za 0)),.op 6 (p 10 (.Z6 9)),.op 7 (p 11 (.Zj 0 10)),.op 8 (p 12 (.Zj 0
 11)),.op 9 (r 13 (.load none 12)),.op 10 (p 14 (.lenOf true 13)),.op 11 (p 15 (.bin .geq 8 14))]) (.seq (.Zi [0,15]) (.cond 15 (.seq (.Zd [p 2 (.Za (.k (.int .u8 0))),p 3 (.Za
 (.k (.bool false)))]) .ret) .skip))) (.seq (.Zi [0]) (.seq (.Zd [p 16 (.Za 0),p 17 (.Z6 16),p 18 (.Zj 0 17),p 19 (.Zj 1 18),r 20 (.load none 19),p 21 (.bin .add 20
 (.k (.int .i64 1))),p 22 (.Z6 16),p 23 (.Zj 0 22),p 24 (.Zj 1 23),w0 (.store 1 24 21)]) (.seq (.Zi [0]) (.seq (.Y7 [.op 0 (p 25 (.Za 0)),.op 1 (p 26 (.Z6 25)),
 .op 2 (p 27 (.Zj 0 26)),.op 3 (p 28 (.Zj 0 27)),.op 4 (r 29 (.load none 28)),.op 5 (p 30 (.Za 0)),.op 6 (p 31 (.Z6 30)),.op 7 (p 32 (.Zj 0 31)),.op 8 (p 33 (.Zj
 1 32)),.op 9 (r 34 (.load none 33)),.op 10 (p 35 (.bin .sub 34 (.k (.int .i64 1)))),.op 11 (p 36 (.Q4 29 35)),.op 12 (p 2 (.Za 36)),.op 13 (p 3 (.Za (.k (.bool true))))]) .ret))))))⟩
def Xa:Zx:=(.seq (.Zi [0]) (.seq (.seq (.Zd [p 8 (.Za 0),p 9 (.Z6 8),p 10 (.Zj 3 9),r 11 (.load none 10),p 12 (.bin .gtr 11 (.k (.int .i64 0)))])
 (.cond 12 .skip (.exit 0))) (.block 1 (.seq (.Zd [p 14 (.Za 0),w 15 (.call (.k (.fn 86 [] [])) [14]),p 13 (.Za 15),p 16 (.Zt 0 13),p 17 (.Zt 1 13),p 3 (.Za 16),p 4 (.Za
 17)]) (.seq (.seq (.Zd [p 18 (.Za 4),p 19 (.un .not 18)]) (.cond 19 (.seq (.Zd [p 2 (.Za (.k (.bool false)))]) .ret) .skip)) (.seq (.seq (.Zd [p 20 (.Za 3)]) (.block 2 (.seq
 (.Zd [p 22 (.bin .eql 20 (.k (.int .u8 92))),p 21 (.Za 22)]) (.cond 21 (.seq (.seq (.Zd [p 23 (.Za 0),w 24 (.call (.k (.fn 106 [] [])) [23]),p 25 (.un .not 24)]) (.cond 25 (.seq
 (.Zd [p 2 (.Za (.k (.bool false)))]) .ret) .skip)) (.exit 1)) (.seq (.Zd [p 27 (.bin .eql 20 (.k (.int .u8 40))),p 26 (.Za 27)]) (.cond 26 (.Zd [p 28 (.Za 0),p 29 (.Z6 28),
 p 30 (.Zj 3 29),r 31 (.load none 30),p 32 (.bin .add 31 (.k (.int .i64 1))),p 33 (.Z6 28),p 34 (.Zj 3 33),w0 (.store 1 34 32)]) (.seq (.Zd [p 36 (.bin .eql 20 (.k (.int
 .u8 41))),p 35 (.Za 36)]) (.cond 35 (.seq (.Zd [p 37 (.Za 0),p 38 (.Z6 37),p 39 (.Zj 3 38),r 40 (.load none 39),p 41 (.bin .sub 40 (.k (.int .i64 1))),p 42 (.Z6 37),
 p 43 (.Zj 3 42),w0 (.store 1 43 41)]) (.seq (.Zi [0,3]) (.seq (.Zd [p 44 (.Za 0),p 45 (.Z6 44),p 46 (.Zj 3 45),r 47 (.load none 46),p 48 (.bin .eql 47 (.k (.int .i64
 0)))]) (.cond 48 (.exit 1) .skip)))) (.seq (.seq (.Zd [p 50 (.bin .eql 20 (.k (.int .u8 10))),p 49 (.Za 50)]) (.cond 49 .skip (.Zd [p 51 (.bin .eql 20 (.k (.int .u8 13))),p 49
 (.Za 51)]))) (.cond 49 (.seq (.Zd [p 52 (.Za 0),p 53 (.Za 3),w 54 (.call (.k (.fn 107 [] [])) [52,53])]) (.Zd [p 3 (.Za (.k (.int .u8 10)))])) .skip)))))))))) (.seq (.Zi
 [0,3]) (.Zd [p 55 (.Za 0),p 56 (.Za 0),p 57 (.Z6 56),p 58 (.Zj 2 57),r 59 (.load none 58),p 60 (.Za 3),n 61 (.Qo 5 1 [(.int .u8 0)] [(0,1,60)]),w 62 (.append
 5 1 1 [(.int .u8 0)] 59 61),p 63 (.Z6 55),p 64 (.Zj 2 63),w0 (.store 1 64 62)]))))))))
def La:Z8:=⟨1,[.t 2],(.seq (.Zd [p 2 (.Za (.k (.bool false)))]) (.seq (.seq (.Zd [p 5 (.Za 0),p 6 (.Z6 5),p 7 (.Zj 3 6),w0 (.store 1 7 (.k (.int .i64
 1)))]) (.block 0 (.loop Xa))) (.seq (.Zi []) (.seq (.Zd [p 2 (.Za (.k (.bool true)))]) .ret))))⟩
def Kc:Z8:=⟨2,[.t 4],(.seq (.Zd [p 4 (.Za (.k (.int .u8 0)))]) (.seq (.seq (.Zd [p 5 (.Za 1),p 6 (.Za 0),p 7 (.lenOf true 6),p 8 (.bin .lss 5 7)]) (.cond
 8 (.seq (.Zd [p 9 (.Za 0),p 10 (.Za 1),p 11 (.Q4 9 10),p 4 (.Za 11)]) .ret) .skip)) (.seq (.Zi []) (.seq (.Zd [p 4 (.Za (.k (.int .u8 0)))]) .ret))))⟩
def W6:Zx:=(.seq (.Zi [0,1,6,7,8]) (.seq (.seq (.Zd [p 17 (.Za 8),p 18 (.Za 6),p 19 (.bin .lss 17 18)]) (.cond 19 .skip (.exit 0))) (.seq (.block
 1 (.Zd [p 22 (.Za 7),p 23 (.bin .mul 22 (.k (.int .i64 8))),p 24 (.Za 0),p 25 (.Za 1),p 26 (.bin .add 25 (.k (.int .i64 1))),p 27 (.Za 8),p 28 (.bin .add 26 27),p 29 (.Q4
 24 28),p 30 (.conv .i64 29),p 31 (.bin .add 23 30),p 32 (.bin .sub 31 (.k (.int .i64 48))),p 7 (.Za 32)])) (.seq (.Zi [0,1,6,7,8]) (.Zd [p 20 (.Za 8),p 21 (.bin .add 20
 (.k (.int .i64 1))),p 8 (.Za 21)])))))
def Vu:Z8:=⟨2,[.t 4,.t 5],(.seq (.Zd [p 4 (.Za (.k .Zk)),p 5 (.Za (.k (.int .i64 0)))]) (.seq (.seq (.Zd [p 11 (.Za 0),p 12 (.Za 1),p 13 (.bin
 .add 12 (.k (.int .i64 1))),w 14 (.call (.k (.fn 108 [] [])) [11,13]),p 6 (.Za 14)]) (.seq (.Zd [p 15 (.Za 6),p 16 (.bin .gtr 15 (.k (.int .i64 0)))]) (.cond 16 (.seq (.Zd [p
 7 (.Za (.k (.int .i64 0)))]) (.seq (.seq (.Zd [p 8 (.Za (.k (.int .i64 0)))]) (.block 0 (.loop W6))) (.seq (.Zi [6,7]) (.seq (.Zd [p 33 (.Za 7),p 34 (.bin
 .rem 33 (.k (.int .i64 256))),p 35 (.conv .u8 34),n 36 (.Qo 5 1 [(.int .u8 0)] [(0,1,35)]),p 37 (.Za 6),p 38 (.bin .add (.k (.int .i64 1)) 37),p 4 (.Za 36),p 5 (.Za
 38)]) .ret)))) .skip))) (.seq (.Zi [0,1]) (.seq (.seq (.Zd [p 39 (.Za 0),p 40 (.Za 1),p 41 (.bin .add 40 (.k (.int .i64 1))),w 42 (.call (.k (.fn 90 [] [])) [39,41]),p 9
 (.Za 42)]) (.seq (.Zd [p 43 (.Za 9),p 44 (.bin .gtr 43 (.k (.int .i64 0)))]) (.cond 44 (.seq (.Zd [p 45 (.Za 9),p 46 (.bin .add (.k (.int .i64 1)) 45),p 4 (.Za (.k .Zk)),
 p 5 (.Za 46)]) .ret) .skip))) (.seq (.Zi [0,1]) (.seq (.Zd [p 47 (.Za 0),p 48 (.Za 1),p 49 (.bin .add 48 (.k (.int .i64 1))),p 50 (.Q4 47 49),p 10 (.Za 50)]) (.seq (.seq
 (.Zd [p 51 (.Za 10)]) (.block 2 (.seq (.Zd [p 53 (.bin .eql 51 (.k (.int .u8 110))),p 52 (.Za 53)]) (.cond 52 (.Zd [p 10 (.Za (.k (.int .u8 10)))]) (.seq (.Zd [p 55 (.bin .eql
 51 (.k (.int .u8 114))),p 54 (.Za 55)]) (.cond 54 (.Zd [p 10 (.Za (.k (.int .u8 13)))]) (.seq (.Zd [p 57 (.bin .eql 51 (.k (.int .u8 116))),p 56 (.Za 57)]) (.cond 56 (.Zd [p
 10 (.Za (.k (.int .u8 9)))]) (.seq (.Zd [p 59 (.bin .eql 51 (.k (.int .u8 98))),p 58 (.Za 59)]) (.cond 58 (.Zd [p 10 (.Za (.k (.int .u8 8)))]) (.seq (.Zd [p 61 (.bin .eql 51
 (.k (.int .u8 102))),p 60 (.Za 61)]) (.cond 60 (.Zd [p 10 (.Za (.k (.int .u8 12)))]) .skip)))))))))))) (.seq (.Zi [10]) (.seq (.Zd [p 62 (.Za 10),n 63 (.Qo 5 1 [(.int
 .u8 0)] [(0,1,62)]),p 4 (.Za 63),p 5 (.Za (.k (.int .i64 2)))]) .ret)))))))))⟩
def K8:Z8:=⟨2,[.t 4],(.seq (.Zd [p 4 (.Za (.k (.int .i64 0)))]) (.seq (.seq (.Zd [p 5 (.Za 0),p 6 (.Za 1),w 7 (.call (.k (.fn 88 [] [])) [5,6]),p 8 (.bin
 .eql 7 (.k (.int .u8 13))),p 9 (.Za 8),pg 10 9 true (.Za 0),pg 11 9 true (.Za 1),pg 12 9 true (.bin .add 11 (.k (.int .i64 1))),wg 13 9 true (.call (.k (.fn 88 [] [])) [10,
 12]),pg 14 9 true (.bin .eql 13 (.k (.int .u8 10))),p 15 (.pick 9 14 (.k (.bool false)))]) (.seq (.Zi [0,1,15]) (.cond 15 (.seq (.Zd [p 4 (.Za (.k (.int .i64 2)))]) .ret) .skip)))
 (.seq (.Zi [0,1]) (.seq (.seq (.Zd [p 16 (.Za 0),p 17 (.Za 1),w 18 (.call (.k (.fn 88 [] [])) [16,17]),p 19 (.bin .eql 18 (.k (.int .u8 13))),p 20 (.Za 19),pg 21 20 false
 (.Za 0),pg 22 20 false (.Za 1),wg 23 20 false (.call (.k (.fn 88 [] [])) [21,22]),pg 24 20 false (.bin .eql 23 (.k (.int .u8 10))),p 25 (.pick 20 (.k (.bool true)) 24)]) (.seq
 (.Zi [25]) (.cond 25 (.seq (.Zd [p 4 (.Za (.k (.int .i64 1)))]) .ret) .skip))) (.seq (.Zi []) (.seq (.Zd [p 4 (.Za (.k (.int .i64 0)))]) .ret))))))⟩
def Jk:Z8:=⟨2,[.t 4],(.seq (.Zd [p 4 (.Za (.k .Y6))]) (.seq (.Zd [p 5 (.Za 0),w 6 (.call (.k (.fn 109 [] [])) [5])]) (.seq (.Zd [p 7 (.Za
 0),p 8 (.Za 0),p 9 (.Z6 8),p 10 (.Zj 1 9),r 11 (.load none 10),p 12 (.Za 1),n 13 (.Qo 5 1 [(.int .u8 0)] [(0,1,12)]),w 14 (.append 5 1 1 [(.int .u8 0)] 11 13),
 p 15 (.Z6 7),p 16 (.Zj 1 15),w0 (.store 1 16 14)]) (.seq (.Zi []) (.seq (.Zd [p 4 (.Za (.k .Y6))]) .ret)))))⟩
def Ki:Z8:=⟨1,[.t 2],(.seq (.Zd [p 2 (.Za (.k (.str [])))]) (.seq (.Y7 [.op 0 (p 3 (.Za 0)),.op 1 (p 4 (.Z6 3)),.op 2 (p 5 (.Zj 1 4)),.op 3
 (r 6 (.load none 5)),.op 5 (p 8 (.Za 0)),.op 6 (p 9 (.Z6 8)),.op 7 (p 10 (.Zj 1 9)),.op 8 (r 11 (.load none 10)),.op 4 (p 7 (.Zko 6)),.op 9 (p 12 (.lenOf false 11)),
 .op 10 (w 13 (.Zr8 5 7 12)),.op 11 (p 2 (.Za 13))]) .ret))⟩
def Qy:Zx:=(.seq (.Zi [1,36,37]) (.seq (.Zd [p 38 (.bin .lss 37 (.k (.int .i64 4)))]) (.seq (.cond 38 .skip (.exit 1)) (.seq (.block 2 (.seq (.Zd [p 39 (.Zs3
 4 1 none 36 37),p 4 (.Za 39)]) (.seq (.Zd [r 40 (.load (some 3) 1),p 41 (.Za 4),p 42 (.build [(.int .i64 0),(.int .i64 0),(.str [])] [(0,1,(.k (.int .i64 3))),(2,1,41)]),
 p 43 (.eqA false [(.i .i64),(.i .i64),.s] 40 42)]) (.cond 43 (.seq (.Zd [p 2 (.Za (.k (.bool true)))]) .ret) .skip)))) (.Zd [p 44 (.bin .add 37 (.k (.int .i64 1))),p 37 (.Za
 44)])))))
def Ya:Z8:=⟨1,[.t 2],(.seq (.Zd [n 1 (.box 134 true 0),p 2 (.Za (.k (.bool false)))]) (.seq (.seq (.Zd [p 5 (.Zj 0 1),r 6 (.load none 5)]) (.block 0 (.seq (.Zd
 [p 8 (.bin .eql 6 (.k (.int .i64 1))),p 7 (.Za 8)]) (.cond 7 (.seq (.Zd [p 9 (.Zj 1 1),r 10 (.load none 9),p 11 (.bin .geq 10 (.k (.int .i64 (-2147483648)))),p 12 (.Za 11),
 pg 13 12 true (.Zj 1 1),rg 14 12 true (.load none 13),pg 15 12 true (.bin .leq 14 (.k (.int .i64 2147483647))),p 16 (.pick 12 15 (.k (.bool false))),p 17 (.Za 16),pg 18 17
 true (.Zj 2 1),rg 19 17 true (.load none 18),pg 20 17 true (.bin .eql 19 (.k (.str []))),p 21 (.pick 17 20 (.k (.bool false))),p 2 (.Za 21)]) .ret) (.seq (.Zd [p 23 (.bin .eql
 6 (.k (.int .i64 2))),p 22 (.Za 23)]) (.cond 22 (.seq (.Zd [p 24 (.Zj 1 1),r 25 (.load none 24),w 26 (.call (.k (.fn 110 [] [])) [25]),p 27 (.Za 26),pg 28 27 true (.Zj
 2 1),rg 29 27 true (.load none 28),pg 30 27 true (.bin .eql 29 (.k (.str []))),p 31 (.pick 27 30 (.k (.bool false))),p 2 (.Za 31)]) .ret) (.seq (.seq (.Zd [p 33 (.bin .eql 6 (.k
 (.int .i64 3))),p 32 (.Za 33)]) (.cond 32 .skip (.seq (.Zd [p 34 (.bin .eql 6 (.k (.int .i64 4))),p 32 (.Za 34)]) (.cond 32 .skip (.Zd [p 35 (.bin .eql 6 (.k (.int .i64 5))),
 p 32 (.Za 35)]))))) (.cond 32 (.seq (.seq (.Zd [p 36 (.build [(.str []),(.str []),(.str []),(.str [])] [(0,1,(.k (.str [91]))),(1,1,(.k (.str [93]))),(2,1,(.k (.str [60,
 60]))),(3,1,(.k (.str [62,62])))]),p 37 (.Za (.k (.int .i64 0)))]) (.block 1 (.loop Qy))) (.seq (.Zi [1]) (.seq (.Zd [p 45 (.Zj 1 1),r 46 (.load none 45),p 47
 (.bin .eql 46 (.k (.int .i64 0))),p 48 (.Za 47),rg 49 48 true (.load (some 3) 1),wg 50 48 true (.call (.k (.fn 111 [] [])) [49]),p 51 (.pick 48 50 (.k (.bool false))),p 2 (.Za
 51)]) .ret))) (.seq (.Zd [p 53 (.bin .eql 6 (.k (.int .i64 6))),p 52 (.Za 53)]) (.cond 52 (.seq (.Zd [p 54 (.Zj 1 1),r 55 (.load none 54),p 56 (.bin .eql 55 (.k (.int .i64
 0))),p 57 (.Za 56),pg 58 57 true (.Zj 2 1),rg 59 57 true (.load none 58),pg 60 57 true (.lenOf true 59),pg 61 57 true (.bin .leq 60 (.k (.int .i64 1000))),p 62 (.pick 57 61
 (.k (.bool false))),p 2 (.Za 62)]) .ret) .skip)))))))))) (.seq (.Zi [1]) (.seq (.Zd [r 63 (.load (some 3) 1),p 64 (.build [(.int .i64 0),(.int .i64 0),(.str [])] [(0,1,(.k
 (.int .i64 7)))]),p 65 (.eqA false [(.i .i64),(.i .i64),.s] 63 64),p 66 (.Za 65),rg 67 66 false (.load (some 3) 1),pg 68 66 false (.build [(.int .i64 0),(.int .i64 0),(.str
 [])] [(0,1,(.k (.int .i64 8)))]),pg 69 66 false (.eqA false [(.i .i64),(.i .i64),.s] 67 68),p 70 (.pick 66 (.k (.bool true)) 69),p 2 (.Za 70)]) .ret))))⟩
def strings_HasPrefix:Z8:=⟨2,[.t 4],(.seq (.Zd [p 4 (.Za (.k (.bool false)))]) (.seq (.Zd [p 5 (.Za 0),p 6 (.Za 1),w 7 (.call (.k (.fn 123 [] [])) [5,6]),p 4 (.Za
 7)]) .ret))⟩
def Yp:Zx:=(.block 1 (.seq (.seq (.Zd [p 12 (.Za 7),p 13 (.bin .lss 12 (.k (.int .i64 0)))]) (.cond 13 (.seq (.Zd [w0 (.store 1 4 (.k (.int .i64 0))),w0 (.store
 1 5 (.k (.bool false)))]) .ret) .skip)) (.Zd [r 14 (.load none 6),r 15 (.load none 3),p 16 (.bin .mul 14 15),p 17 (.Za 7),p 18 (.bin .add 16 17),p 19 (.Dy false [18,(.k
 (.int .i64 1099511627776))]),w0 (.store 1 6 19)])))
def N9:Z8:=⟨2,[.cell 4 none,.cell 5 none],(.seq (.Zd [n 3 (.box 3 true 1),n 4 (.alloc 3 true [(.int .i64 0)]),n 5 (.alloc 4 true [(.bool false)])]) (.seq (.Zd [n
 6 (.alloc 3 true [(.int .i64 0)]),w0 (.store 1 6 (.k (.int .i64 0)))]) (.seq (.seq (.Zd [p 8 (.Za 0),r 9 (.load none 3),w 10 (.call (.k (.fn 112 [] [])) [8,9])]) (.block 0 (.rangeFunc
 10 [11] (.Zd [p 7 (.Za 11)]) Yp))) (.seq (.Zi [0,4,5,6]) (.seq (.Zd [r 20 (.load none 6),p 21 (.Za 0),p 22 (.bin .neq 21 (.k (.str []))),w0 (.store 1 4 20),w0
 (.store 1 5 22)]) .ret)))))⟩
def Q7:Z8:=⟨2,[.cell 4 (some 3),.t 5],(.seq (.Zd [n 4 (.alloc 134 true [(.int .i64 0),(.int .i64 0),(.str [])]),p 5 (.Za (.k (.int .i64 0)))]) (.seq (.seq
 (.Zd [p 6 (.Za 0),p 7 (.lenOf true 6),p 8 (.bin .gtr 7 (.k (.int .i64 40))),p 9 (.Za 8),pg 10 9 false (.Za 1),pg 11 9 false (.bin .lss 10 (.k (.int .i64 (-2147483648)))),p
 12 (.pick 9 (.k (.bool true)) 11),p 13 (.Za 12),pg 14 13 false (.Za 1),pg 15 13 false (.bin .gtr 14 (.k (.int .i64 2147483647))),p 16 (.pick 13 (.k (.bool true)) 15)]) (.seq (.Zi
 [1,4,16]) (.cond 16 (.seq (.Zd [p 17 (.build [(.int .i64 0),(.int .i64 0),(.str [])] []),w0 (.store 3 4 17),p 5 (.Za (.k (.int .i64 26)))]) .ret) .skip))) (.seq (.Zi [1,4])
 (.seq (.Zd [p 18 (.Za 1),p 19 (.build [(.int .i64 0),(.int .i64 0),(.str [])] [(0,1,(.k (.int .i64 1))),(1,1,18)]),w0 (.store 3 4 19),p 5 (.Za (.k (.int .i64 0)))]) .ret))))⟩
def strings_Cut:Z8:=⟨2,[.t 4,.t 5,.t 6],(.seq (.Zd [p 4 (.Za (.k (.str []))),p 5 (.Za (.k (.str []))),p 6 (.Za (.k (.bool false)))]) (.seq (.Zd [p 7 (.Za 0),p 8 (.Za
 1),w 9 (.call (.k (.fn 140 [] [])) [7,8]),p 10 (.Zt 0 9),p 11 (.Zt 1 9),p 12 (.Zt 2 9),p 4 (.Za 10),p 5 (.Za 11),p 6 (.Za 12)]) .ret))⟩
def strings_ContainsAny:Z8:=⟨2,[.t 4],(.seq (.Zd [p 4 (.Za (.k (.bool false)))]) (.seq (.Zd [p 5 (.Za 0),p 6 (.Za 1),w 7 (.call (.k (.fn 141 [] [])) [5,6]),p 8 (.bin
 .geq 7 (.k (.int .i64 0))),p 4 (.Za 8)]) .ret))⟩
def Qf:Zx:=(.seq (.Zi [0,3,4,10,11]) (.seq (.Zd [p 12 (.bin .lss 11 10)]) (.seq (.cond 12 .skip (.exit 0)) (.seq (.block 1 (.seq (.Zd [p 13 (.Za 11),p 5
 (.Za 13)]) (.seq (.seq (.Zd [p 14 (.Za 0),p 15 (.Za 5),p 16 (.Q4 14 15),p 17 (.bin .eql 16 (.k (.int .u8 101))),p 18 (.Za 17),pg 19 18 false (.Za 0),pg 20 18 false (.Za
 5),pg 21 18 false (.Q4 19 20),pg 22 18 false (.bin .eql 21 (.k (.int .u8 69))),p 23 (.pick 18 (.k (.bool true)) 22)]) (.seq (.Zi [0,3,4,5,10,11,23]) (.cond 23 (.Zd [p
 4 (.Za (.k (.bool false)))]) .skip))) (.seq (.Zi [0,3,4,5,10,11]) (.seq (.Zd [p 24 (.Za 0),p 25 (.Za 5),p 26 (.Q4 24 25),p 27 (.bin .geq 26 (.k (.int .u8 48))),p 28
 (.Za 27),pg 29 28 true (.Za 0),pg 30 28 true (.Za 5),pg 31 28 true (.Q4 29 30),pg 32 28 true (.bin .leq 31 (.k (.int .u8 57))),p 33 (.pick 28 32 (.k (.bool false))),p 6 (.Za
 33)]) (.seq (.Zi [0,3,4,5,6,10,11]) (.seq (.seq (.Zd [p 34 (.Za 4),p 35 (.Za 34),pg 36 35 true (.Za 6),p 37 (.pick 35 36 (.k (.bool false))),p 38 (.Za 37),pg 39 38
 true (.Za 5),pg 40 38 true (.bin .gtr 39 (.k (.int .i64 0))),p 41 (.pick 38 40 (.k (.bool false))),p 42 (.Za 41),pg 43 42 true (.Za 0),pg 44 42 true (.Za 5),pg 45 42 true
 (.bin .sub 44 (.k (.int .i64 1))),pg 46 42 true (.Q4 43 45),pg 47 42 true (.bin .geq 46 (.k (.int .u8 48))),p 48 (.pick 42 47 (.k (.bool false))),p 49 (.Za 48),pg 50 49 true
 (.Za 0),pg 51 49 true (.Za 5),pg 52 49 true (.bin .sub 51 (.k (.int .i64 1))),pg 53 49 true (.Q4 50 52),pg 54 49 true (.bin .leq 53 (.k (.int .u8 57))),p 55 (.pick 49 54 (.k
 (.bool false)))]) (.cond 55 (.exit 1) .skip)) (.seq (.Zi [0,3,4,5,10,11]) (.seq (.seq (.Zd [p 56 (.Za 3),p 57 (.lenOf true 56),p 58 (.bin .gtr 57 (.k (.int .i64 40)))]) (.cond
 58 (.seq (.Zd [p 2 (.Za (.k (.bool false)))]) .ret) .skip)) (.Zd [p 59 (.Za 3),p 60 (.Za 0),p 61 (.Za 5),p 62 (.Za 5),p 63 (.bin .add 62 (.k (.int .i64 1))),p 64 (.Lg
 60 (some 61) (some 63)),p 65 (.bin .add 59 64),p 3 (.Za 65)])))))))))) (.seq (.Zi [0,3,4,10,11]) (.Zd [p 66 (.bin .add 11 (.k (.int .i64 1))),p 11 (.Za 66)]))))))
def G7:Z8:=⟨1,[.t 2],(.seq (.Zd [p 2 (.Za (.k (.bool false)))]) (.seq (.Zd [p 3 (.Za (.k (.str []))),p 4 (.Za (.k (.bool true)))]) (.seq (.seq (.Zd [p 9 (.Za
 0),p 10 (.lenOf true 9),p 11 (.Za (.k (.int .i64 0)))]) (.block 0 (.loop Qf))) (.seq (.Zi [3]) (.seq (.Zd [p 68 (.Za 3),w 69 (.call (.k (.fn 100 [] [])) [68]),p
 67 (.Za 69),p 70 (.Zt 0 67),p 71 (.Zt 1 67),p 7 (.Za 70),p 8 (.Za 71)]) (.seq (.Zd [p 72 (.Za 8),p 73 (.bin .eql 72 (.k (.int .i64 0))),p 74 (.Za 73),pg 75 74 false
 (.Za 8),pg 76 74 false (.bin .eql 75 (.k (.int .i64 6))),p 77 (.pick 74 (.k (.bool true)) 76),p 2 (.Za 77)]) .ret))))))⟩
def Ey:Zx:=(.seq (.Zi [5,9,10,39]) (.seq (.Zd [p 40 (.bin .lss 39 (.k (.int .i64 16)))]) (.seq (.cond 40 .skip (.exit 0)) (.seq (.block 1 (.Zd [p 41 (.Za 9),
 p 42 (.bin .mul (.k (.int .i64 2)) 41),p 43 (.Za 10),w 44 (.call (.k (.fn 116 [] [])) [43]),p 45 (.bin .add 42 44),p 9 (.Za 45)])) (.Zd [p 46 (.bin .add 39 (.k (.int .i64 1))),
 p 39 (.Za 46)])))))
def R3:Zx:=(.seq (.Zi [5,9,11,12,50,51,52]) (.seq (.Zd [p 53 (.bin .lss 52 51)]) (.seq (.cond 53 .skip (.exit 2)) (.seq (.block 3 (.seq (.Zd [p 54 (.Vn
 1 50 52),r 55 (.load none 54),p 14 (.Za 55)]) (.Zd [p 56 (.Za 12),p 57 (.Za 56),pg 58 57 false (.Za 14),pg 59 57 false (.bin .neq 58 (.k (.int .u8 0))),p 60 (.pick 57 (.k
 (.bool true)) 59),p 12 (.Za 60)]))) (.seq (.Zi [5,9,11,12,50,51,52]) (.Zd [p 61 (.bin .add 52 (.k (.int .i64 1))),p 52 (.Za 61)]))))))
def L9:Z8:=⟨1,[.t 2,.t 3],(.seq (.Zd [p 2 (.Za (.k (.int .i64 0))),p 3 (.Za (.k (.int .i64 0)))]) (.seq (.seq (.Zd [p 15 (.Za 0),p 16 (.lenOf true 15),p 17
 (.bin .gtr 16 (.k (.int .i64 40)))]) (.cond 17 (.seq (.Zd [p 2 (.Za (.k (.int .i64 0))),p 3 (.Za (.k (.int .i64 3)))]) .ret) .skip)) (.seq (.Zd [p 18 (.Za 0),p 19 (.build [(.str
 []),(.int .i64 0)] [(0,1,18)]),p 20 (.build [(.str []),(.int .i64 0)] [(0,2,19)]),n 21 (.box 187 false 20),p 4 (.Za 21)]) (.seq (.Zd [p 23 (.Za 4),w 24 (.call (.k (.fn
 113 [] [])) [23]),p 22 (.Za 24),p 25 (.Zt 0 22),p 26 (.Zt 1 22),p 27 (.Zt 2 22),p 28 (.Zt 3 22),p 5 (.Za 25),p 6 (.Za 26),p 7 (.Za 27),p 8 (.Za 28)]) (.seq (.Zi
 [5,6,7,8]) (.seq (.seq (.Zd [p 29 (.Za 8),p 30 (.un .not 29)]) (.cond 30 (.seq (.Zd [p 2 (.Za (.k (.int .i64 0))),p 3 (.Za (.k (.int .i64 5)))]) .ret) .skip)) (.seq (.Zd
 [p 31 (.Za 6),p 32 (.Za 7),w 33 (.call (.k (.fn 114 [] [])) [31,32]),p 34 (.Za 6),p 35 (.Za 7),w 36 (.call (.k (.fn 115 [] [])) [34,35]),p 9 (.Za 33),p 10 (.Za 36)])
 (.seq (.Zi [5,9,10]) (.seq (.seq (.Zd [p 37 (.Za 9),p 38 (.bin .gtr 37 (.k (.int .i64 2147483648)))]) (.cond 38 (.seq (.Zd [p 2 (.Za (.k (.int .i64 0))),p 3 (.Za (.k (.int
 .i64 6)))]) .ret) .skip)) (.seq (.seq (.Zd [p 39 (.Za (.k (.int .i64 0)))]) (.block 0 (.loop Ey))) (.seq (.Zi [5,9,10]) (.seq (.Zd [p 47 (.Za 10),w 48 (.call (.k
 (.fn 116 [] [])) [47]),p 49 (.bin .eql 48 (.k (.int .i64 1))),p 11 (.Za 49)]) (.seq (.Zd [p 12 (.Za (.k (.bool false)))]) (.seq (.seq (.Zd [p 50 (.Za 10),p 51 (.lenOf false
 50),p 52 (.Za (.k (.int .i64 0)))]) (.block 2 (.loop R3))) (.seq (.Zi [5,9,11,12]) (.seq (.seq (.Zd [p 62 (.Za 11),p 63 (.Za 62),pg 64 63 true (.Za 5),pg 65
 63 true (.un .not 64),pg 66 63 true (.Za 65),pg 67 66 false (.Za 12),pg 68 63 true (.pick 66 (.k (.bool true)) 67),p 69 (.pick 63 68 (.k (.bool false)))]) (.seq (.Zi [5,9,
 69]) (.cond 69 (.Zd [p 70 (.Za 9),p 71 (.bin .add 70 (.k (.int .i64 1))),p 9 (.Za 71)]) .skip))) (.seq (.Zi [5,9]) (.seq (.seq (.Zd [p 72 (.Za 5)]) (.cond 72 (.Zd [p 73 (.Za
 9),p 74 (.un .neg 73),p 9 (.Za 74)]) .skip)) (.seq (.seq (.Zd [p 75 (.Za 9),w 76 (.call (.k (.fn 110 [] [])) [75]),p 77 (.un .not 76)]) (.cond 77 (.seq (.Zd [p 2 (.Za (.k (.int
 .i64 0))),p 3 (.Za (.k (.int .i64 6)))]) .ret) .skip)) (.seq (.Zd [p 78 (.Za 9),p 2 (.Za 78),p 3 (.Za (.k (.int .i64 0)))]) .ret))))))))))))))))))))⟩
def Uw:Z8:=⟨1,[.t 2],(.seq (.Zd [p 2 (.Za (.k (.int .i64 0)))]) (.seq (.seq (.Zd [p 3 (.Za 0),p 4 (.bin .geq 3 (.k (.int .u8 48))),p 5 (.Za 4),pg 6 5 true
 (.Za 0),pg 7 5 true (.bin .leq 6 (.k (.int .u8 57))),p 8 (.pick 5 7 (.k (.bool false)))]) (.cond 8 (.seq (.Zd [p 9 (.Za 0),p 10 (.conv .i64 9),p 11 (.bin .sub 10 (.k (.int .i64
 48))),p 2 (.Za 11)]) .ret) .skip)) (.seq (.Zi [0]) (.seq (.seq (.Zd [p 12 (.Za 0),p 13 (.bin .geq 12 (.k (.int .u8 65))),p 14 (.Za 13),pg 15 14 true (.Za 0),pg 16 14 true
 (.bin .leq 15 (.k (.int .u8 90))),p 17 (.pick 14 16 (.k (.bool false)))]) (.cond 17 (.seq (.Zd [p 18 (.Za 0),p 19 (.conv .i64 18),p 20 (.bin .sub 19 (.k (.int .i64 55))),p 2 (.Za
 20)]) .ret) .skip)) (.seq (.Zi [0]) (.seq (.seq (.Zd [p 21 (.Za 0),p 22 (.bin .geq 21 (.k (.int .u8 97))),p 23 (.Za 22),pg 24 23 true (.Za 0),pg 25 23 true (.bin .leq 24 (.k
 (.int .u8 122))),p 26 (.pick 23 25 (.k (.bool false)))]) (.cond 26 (.seq (.Zd [p 27 (.Za 0),p 28 (.conv .i64 27),p 29 (.bin .sub 28 (.k (.int .i64 87))),p 2 (.Za 29)]) .ret)
 .skip)) (.seq (.Zi []) (.seq (.Zd [p 2 (.Za (.k (.int .i64 36)))]) .ret))))))))⟩
def K7:Z8:=⟨1,[.t 2],(.seq (.Zd [p 2 (.Za (.k (.bool false)))]) (.seq (.Zd [p 3 (.Za 0),p 4 (.bin .geq 3 (.k (.int .u8 48))),p 5 (.Za 4),pg 6 5 true (.Za
 0),pg 7 5 true (.bin .leq 6 (.k (.int .u8 57))),p 8 (.pick 5 7 (.k (.bool false))),p 2 (.Za 8)]) .ret))⟩
def Xt:Zx:=(.seq (.Zi [0,3,4,5]) (.seq (.seq (.Zd [p 15 (.Za 5),p 16 (.bin .geq 15 (.k (.int .i64 0)))]) (.cond 16 .skip (.exit 0))) (.seq (.block 1
 (.seq (.Zd [p 19 (.Za 0),p 20 (.Za 5),p 21 (.Vn 1 19 20),r 22 (.load none 21),p 23 (.bin .mul 22 (.k (.int .i64 131072))),p 24 (.Za 4),p 25 (.bin .add 23 24),p 6 (.Za
 25)]) (.seq (.Zi [0,3,5,6]) (.seq (.Zd [p 26 (.Za 3),p 27 (.Za 5),p 28 (.bin .add 27 (.k (.int .i64 6))),p 29 (.Za 6),p 30 (.bin .rem 29 (.k (.int .i64 10))),p 31 (.Vn
 1 26 28),w0 (.store 1 31 30)]) (.Zd [p 32 (.Za 6),p 33 (.bin .quo 32 (.k (.int .i64 10))),p 4 (.Za 33)]))))) (.seq (.Zi [0,3,4,5]) (.Zd [p 17 (.Za 5),p 18 (.bin .sub 17
 (.k (.int .i64 1))),p 5 (.Za 18)])))))
def Xu:Zx:=(.seq (.Zi [3,4,7]) (.seq (.seq (.Zd [p 34 (.Za 7),p 35 (.bin .geq 34 (.k (.int .i64 0)))]) (.cond 35 .skip (.exit 2))) (.seq (.block 3 (.seq
 (.Zd [p 38 (.Za 3),p 39 (.Za 7),p 40 (.Za 4),p 41 (.bin .rem 40 (.k (.int .i64 10))),p 42 (.Vn 1 38 39),w0 (.store 1 42 41)]) (.Zd [p 43 (.Za 4),p 44 (.bin .quo 43 (.k
 (.int .i64 10))),p 4 (.Za 44)]))) (.seq (.Zi [3,4,7]) (.Zd [p 36 (.Za 7),p 37 (.bin .sub 36 (.k (.int .i64 1))),p 7 (.Za 37)])))))
def Uu:Z8:=⟨1,[.t 2],(.seq (.Zd [p 2 (.Za (.k .Zk))]) (.seq (.Zd [p 8 (.Za 0),p 9 (.lenOf false 8),p 10 (.bin .add 9 (.k (.int .i64 6))),n 11 (.Zxs
 3 1 8 [(.int .i64 0)] 10 10),p 3 (.Za 11)]) (.seq (.Zd [p 4 (.Za (.k (.int .i64 0)))]) (.seq (.seq (.Zd [p 12 (.Za 0),p 13 (.lenOf false 12),p 14 (.bin .sub 13 (.k (.int .i64
 1))),p 5 (.Za 14)]) (.block 0 (.loop Xt))) (.seq (.Zi [3,4]) (.seq (.seq (.Zd [p 7 (.Za (.k (.int .i64 5)))]) (.block 2 (.loop Xu))) (.seq (.Zi
 [3]) (.seq (.Zd [p 45 (.Za 3),p 2 (.Za 45)]) .ret))))))))⟩
def Kg:Z8:=⟨2,[.t 4],(.seq (.Zd [p 4 (.Za (.k (.int .i64 0)))]) (.seq (.seq (.Zd [p 5 (.Za 0),p 6 (.Za 1),p 7 (.bin .rem 5 6),p 8 (.bin .lss 7 (.k (.int
 .i64 0)))]) (.cond 8 (.seq (.Zd [p 9 (.Za 0),p 10 (.Za 1),p 11 (.bin .quo 9 10),p 12 (.bin .sub 11 (.k (.int .i64 1))),p 4 (.Za 12)]) .ret) .skip)) (.seq (.Zi [0,1]) (.seq
 (.Zd [p 13 (.Za 0),p 14 (.Za 1),p 15 (.bin .quo 13 14),p 4 (.Za 15)]) .ret))))⟩
def Ky:Z8:=⟨1,[.t 2],(.seq (.Zd [p 2 (.Za (.k (.bool false)))]) (.seq (.Zd [p 3 (.Za 0),p 4 (.bin .geq 3 (.k (.int .i64 (-2147483648)))),p 5 (.Za 4),pg 6
 5 true (.Za 0),pg 7 5 true (.bin .leq 6 (.k (.int .i64 2147483648))),p 8 (.pick 5 7 (.k (.bool false))),p 2 (.Za 8)]) .ret))⟩
def Ka:Zx:=(.seq (.Zi [0,7,63]) (.seq (.Zd [p 64 (.bin .lss 63 (.k (.int .i64 2)))]) (.seq (.cond 64 .skip (.exit 1)) (.seq (.block 2 (.seq (.Y7 [.op
 0 (p 65 (.Za 0)),.op 1 (p 66 (.Z6 65)),.op 2 (p 67 (.Zj 0 66)),.op 3 (p 68 (.Zj 1 67)),.op 4 (r 69 (.load none 68)),.op 5 (p 70 (.Za 0)),.op 6 (p 71 (.Z6 70)),.op
 7 (p 72 (.Zj 0 71)),.op 8 (p 73 (.Zj 0 72)),.op 9 (r 74 (.load none 73)),.op 10 (p 75 (.lenOf true 74)),.op 11 (p 76 (.bin .lss 69 75)),.op 12 (p 77 (.Za 76)),.op 13 (pg
 78 77 true (.Za 0)),.op 14 (pg 79 77 true (.Z6 78)),.op 15 (pg 80 77 true (.Zj 0 79)),.op 16 (pg 81 77 true (.Zj 0 80)),.op 17 (rg 82 77 true (.load none 81)),.op 18
 (pg 83 77 true (.Za 0)),.op 19 (pg 84 77 true (.Z6 83)),.op 20 (pg 85 77 true (.Zj 0 84)),.op 21 (pg 86 77 true (.Zj 1 85)),.op 22 (rg 87 77 true (.load none 86)),.op
 23 (pg 88 77 true (.Q4 82 87)),.op 24 (pg 89 77 true (.bin .geq 88 (.k (.int .u8 48)))),.op 25 (p 90 (.pick 77 89 (.k (.bool false)))),.op 26 (p 91 (.Za 90)),.op 27 (pg 92 91
 true (.Za 0)),.op 28 (pg 93 91 true (.Z6 92)),.op 29 (pg 94 91 true (.Zj 0 93)),.op 30 (pg 95 91 true (.Zj 0 94)),.op 31 (rg 96 91 true (.load none 95)),.op 32 (pg 97
 91 true (.Za 0)),.op 33 (pg 98 91 true (.Z6 97)),.op 34 (pg 99 91 true (.Zj 0 98)),.op 35 (pg 100 91 true (.Zj 1 99)),.op 36 (rg 101 91 true (.load none 100)),.op 37
 (pg 102 91 true (.Q4 96 101)),.op 38 (pg 103 91 true (.bin .leq 102 (.k (.int .u8 55)))),.op 39 (p 104 (.pick 91 103 (.k (.bool false))))]) (.seq (.Zi [0,7,63,104]) (.cond
 104 (.seq (.Y7 [.op 2 (p 107 (.Za 0)),.op 3 (p 108 (.Z6 107)),.op 4 (p 109 (.Zj 0 108)),.op 5 (p 110 (.Zj 0 109)),.op 6 (r 111 (.load none 110)),.op 7 (p 112 (.Za
 0)),.op 8 (p 113 (.Z6 112)),.op 9 (p 114 (.Zj 0 113)),.op 10 (p 115 (.Zj 1 114)),.op 11 (r 116 (.load none 115)),.op 0 (p 105 (.Za 7)),.op 1 (p 106 (.bin .mul (.k (.int
 .i64 8)) 105)),.op 12 (p 117 (.Q4 111 116)),.op 13 (p 118 (.bin .sub 117 (.k (.int .u8 48)))),.op 14 (p 119 (.conv .i64 118)),.op 15 (p 120 (.bin .add 106 119)),.op 16 (p 7 (.Za
 120))]) (.seq (.Zi [0,7,63]) (.Zd [p 121 (.Za 0),p 122 (.Z6 121),p 123 (.Zj 0 122),p 124 (.Zj 1 123),r 125 (.load none 124),p 126 (.bin .add 125 (.k (.int .i64 1))),
 p 127 (.Z6 121),p 128 (.Zj 0 127),p 129 (.Zj 1 128),w0 (.store 1 129 126)]))) (.exit 1))))) (.seq (.Zi [0,7,63]) (.Zd [p 130 (.bin .add 63 (.k (.int .i64 1))),p 63
 (.Za 130)]))))))
def V1:Z8:=⟨1,[.t 2],(.seq (.Zd [p 2 (.Za (.k (.bool false)))]) (.seq (.Zd [p 9 (.Za 0),w 10 (.call (.k (.fn 86 [] [])) [9]),p 8 (.Za 10),p 11 (.Zt
 0 8),p 12 (.Zt 1 8),p 3 (.Za 11),p 4 (.Za 12)]) (.seq (.seq (.Zd [p 13 (.Za 4),p 14 (.un .not 13)]) (.cond 14 (.seq (.Zd [p 2 (.Za (.k (.bool false)))]) .ret) .skip)) (.seq
 (.Zd [w 16 (.call (.k (.fn 117 [] [])) []),p 17 (.Za 3),r 18 (.lookup (.i .u8) (.int .u8 0) true 16 17),p 15 (.Za 18),p 19 (.Zt 0 15),p 20 (.Zt 1 15),p 5 (.Za 19),p 6
 (.Za 20)]) (.seq (.Zi [0,3,5,6]) (.seq (.block 0 (.seq (.Zd [p 32 (.Za 6),p 31 (.Za 32)]) (.cond 31 (.Zd [p 33 (.Za 0),p 34 (.Za 0),p 35 (.Z6 34),p 36 (.Zj 2 35),
 r 37 (.load none 36),p 38 (.Za 5),n 39 (.Qo 5 1 [(.int .u8 0)] [(0,1,38)]),w 40 (.append 5 1 1 [(.int .u8 0)] 37 39),p 41 (.Z6 33),p 42 (.Zj 2 41),w0 (.store 1 42
 40)]) (.seq (.Zd [p 44 (.Za 3),p 45 (.bin .eql 44 (.k (.int .u8 10))),p 46 (.Za 45),pg 47 46 false (.Za 3),pg 48 46 false (.bin .eql 47 (.k (.int .u8 13))),p 49 (.pick 46 (.k
 (.bool true)) 48),p 43 (.Za 49)]) (.cond 43 (.Zd [p 50 (.Za 0),p 51 (.Za 3),w 52 (.call (.k (.fn 107 [] [])) [50,51])]) (.seq (.Zd [p 54 (.Za 3),p 55 (.bin .geq 54 (.k (.int
 .u8 48))),p 56 (.Za 55),pg 57 56 true (.Za 3),pg 58 56 true (.bin .leq 57 (.k (.int .u8 55))),p 59 (.pick 56 58 (.k (.bool false))),p 53 (.Za 59)]) (.cond 53 (.seq (.Zd [p
 60 (.Za 3),p 61 (.bin .sub 60 (.k (.int .u8 48))),p 62 (.conv .i64 61),p 7 (.Za 62)]) (.seq (.seq (.Zd [p 63 (.Za (.k (.int .i64 0)))]) (.block 1 (.loop Ka)))
 (.seq (.Zi [0,7]) (.Zd [p 131 (.Za 0),p 132 (.Za 0),p 133 (.Z6 132),p 134 (.Zj 2 133),r 135 (.load none 134),p 136 (.Za 7),p 137 (.conv .u8 136),n 138 (.Qo
 5 1 [(.int .u8 0)] [(0,1,137)]),w 139 (.append 5 1 1 [(.int .u8 0)] 135 138),p 140 (.Z6 131),p 141 (.Zj 2 140),w0 (.store 1 141 139)])))) (.Zd [p 21 (.Za 0),p 22 (.Za
 0),p 23 (.Z6 22),p 24 (.Zj 2 23),r 25 (.load none 24),p 26 (.Za 3),n 27 (.Qo 5 1 [(.int .u8 0)] [(0,1,26)]),w 28 (.append 5 1 1 [(.int .u8 0)] 25 27),p 29 (.Z6
 21),p 30 (.Zj 2 29),w0 (.store 1 30 28)])))))))) (.seq (.Zi []) (.seq (.Zd [p 2 (.Za (.k (.bool true)))]) .ret))))))))⟩
def Jq:Z8:=⟨2,[],(.seq (.Y7 [.op 0 (p 4 (.Za 1)),.op 1 (p 5 (.bin .eql 4 (.k (.int .u8 13)))),.op 2 (p 6 (.Za 5)),.op 3 (pg 7 6 true (.Za 0)),.op 4 (pg
 8 6 true (.Z6 7)),.op 5 (pg 9 6 true (.Zj 0 8)),.op 6 (pg 10 6 true (.Zj 1 9)),.op 7 (rg 11 6 true (.load none 10)),.op 8 (pg 12 6 true (.Za 0)),.op 9 (pg 13 6 true (.Z6
 12)),.op 10 (pg 14 6 true (.Zj 0 13)),.op 11 (pg 15 6 true (.Zj 0 14)),.op 12 (rg 16 6 true (.load none 15)),.op 13 (pg 17 6 true (.lenOf true 16)),.op 14 (pg 18 6 true (.bin
 .lss 11 17)),.op 15 (p 19 (.pick 6 18 (.k (.bool false)))),.op 16 (p 20 (.Za 19)),.op 17 (pg 21 20 true (.Za 0)),.op 18 (pg 22 20 true (.Z6 21)),.op 19 (pg 23 20 true (.Zj
 0 22)),.op 20 (pg 24 20 true (.Zj 0 23)),.op 21 (rg 25 20 true (.load none 24)),.op 22 (pg 26 20 true (.Za 0)),.op 23 (pg 27 20 true (.Z6 26)),.op 24 (pg 28 20 true (.Zj
 0 27)),.op 25 (pg 29 20 true (.Zj 1 28)),.op 26 (rg 30 20 true (.load none 29)),.op 27 (pg 31 20 true (.Q4 25 30)),.op 28 (pg 32 20 true (.bin .eql 31 (.k (.int .u8 10)))),
 .op 29 (p 33 (.pick 20 32 (.k (.bool false))))]) (.seq (.Zi [0,33]) (.cond 33 (.Zd [p 34 (.Za 0),p 35 (.Z6 34),p 36 (.Zj 0 35),p 37 (.Zj 1 36),r 38 (.load none 37),
 p 39 (.bin .add 38 (.k (.int .i64 1))),p 40 (.Z6 34),p 41 (.Zj 0 40),p 42 (.Zj 1 41),w0 (.store 1 42 39)]) .skip)))⟩
def Xw:Zx:=(.seq (.Zi [0,1,5]) (.seq (.seq (.Zd [p 6 (.Za 5),p 7 (.bin .lss 6 (.k (.int .i64 3))),p 8 (.Za 7),pg 9 8 true (.Za 0),pg 10 8 true (.Za
 1),pg 11 8 true (.Za 5),pg 12 8 true (.bin .add 10 11),wg 13 8 true (.call (.k (.fn 88 [] [])) [9,12]),pg 14 8 true (.bin .geq 13 (.k (.int .u8 48))),p 15 (.pick 8 14 (.k (.bool
 false))),p 16 (.Za 15),pg 17 16 true (.Za 0),pg 18 16 true (.Za 1),pg 19 16 true (.Za 5),pg 20 16 true (.bin .add 18 19),wg 21 16 true (.call (.k (.fn 88 [] [])) [17,20]),
 pg 22 16 true (.bin .leq 21 (.k (.int .u8 55))),p 23 (.pick 16 22 (.k (.bool false)))]) (.cond 23 .skip (.exit 0))) (.seq (.Zi [0,1,5]) (.block 1 (.Zd [p 24 (.Za 5),p 25 (.bin
 .add 24 (.k (.int .i64 1))),p 5 (.Za 25)])))))
def Ux:Z8:=⟨2,[.t 4],(.seq (.Zd [p 4 (.Za (.k (.int .i64 0)))]) (.seq (.Zd [p 5 (.Za (.k (.int .i64 0)))]) (.seq (.block 0 (.loop Xw)) (.seq
 (.Zi [5]) (.seq (.Zd [p 26 (.Za 5),p 4 (.Za 26)]) .ret)))))⟩
def Kl:Z8:=⟨1,[],(.seq (.Zd [p 2 (.Za 0),p 3 (.Z6 2),p 4 (.Zj 0 3),r 5 (.load none 4),p 6 (.eqN false 0 5 (.k .Wa))]) (.cond 6 (.Zd [p
 7 (.Za 0),p 8 (.Za 0),r 9 (.Rx 8),w 10 (.call (.k (.fn 118 [] [])) [9]),r 11 (.ofU 84 2 10),p 12 (.Z6 7),p 13 (.Zj 0 12),w0 (.store 1 13 11)]) (.seq (.Zd [p 14 (.Za
 0),p 15 (.Z6 14),p 16 (.Zj 0 15),r 17 (.load none 16),p 18 (.Za 0),p 19 (.eqN true 0 17 18)]) (.cond 19 .stuck .skip))))⟩
def Gj:Z8:=⟨1,[.t 2],(.seq (.Zd [p 2 (.Za (.k (.bool false)))]) (.seq (.Zd [p 3 (.Za 0),p 4 (.bin .geq 3 (.k (.int .i64 (-2147483648)))),p 5 (.Za 4),pg 6 5 true
 (.Za 0),pg 7 5 true (.bin .leq 6 (.k (.int .i64 2147483648))),p 8 (.pick 5 7 (.k (.bool false))),p 2 (.Za 8)]) .ret))⟩
def Ra:Z8:=⟨1,[.t 2],(.seq (.Zd [n 1 (.box 134 true 0),p 2 (.Za (.k (.bool false)))]) (.seq (.seq (.Zd [p 5 (.Zj 2 1),r 6 (.load none 5),p 7 (.lenOf true 6),
 p 8 (.bin .gtr 7 (.k (.int .i64 100))),p 9 (.Za 8),pg 10 9 false (.Zj 2 1),rg 11 9 false (.load none 10),wg 12 9 false (.call (.k (.fn 82 [] [])) [11]),pg 13 9 false (.un .not
 12),p 14 (.pick 9 (.k (.bool true)) 13)]) (.seq (.Zi [1,14]) (.cond 14 (.seq (.Zd [p 2 (.Za (.k (.bool false)))]) .ret) .skip))) (.seq (.Zi [1]) (.seq (.seq (.Zd [p 15 (.Zj
 0 1),r 16 (.load none 15),p 17 (.bin .neq 16 (.k (.int .i64 3)))]) (.cond 17 (.seq (.Zd [p 2 (.Za (.k (.bool true)))]) .ret) .skip)) (.seq (.Zd [p 19 (.Zj 2 1),r 20 (.load
 none 19),w 21 (.call (.k (.fn 63 [] [])) [20]),p 18 (.Za 21),p 22 (.Zt 0 18),p 23 (.Zt 1 18),n 3 (.alloc 134 true [(.int .i64 0),(.int .i64 0),(.str [])]),w0 (.store 3
 3 22),p 4 (.Za 23)]) (.seq (.Zi [1,4]) (.seq (.Zd [p 24 (.Zj 2 1),r 25 (.load none 24),p 26 (.bin .neq 25 (.k (.str []))),p 27 (.Za 26),pg 28 27 true (.Za 4),pg 29 27
 true (.bin .eql 28 (.k (.int .i64 5))),p 30 (.pick 27 29 (.k (.bool false))),p 2 (.Za 30)]) .ret)))))))⟩
def stringslite_HasPrefix:Z8:=⟨2,[.t 4],(.seq (.Zd [p 4 (.Za (.k (.bool false)))]) (.seq (.Zd [p 5 (.Za 0),p 6 (.lenOf true 5),p 7 (.Za 1),p 8 (.lenOf true 7),p 9 (.bin
 .geq 6 8),p 10 (.Za 9),pg 11 10 true (.Za 0),pg 12 10 true (.Za 1),pg 13 10 true (.lenOf true 12),pg 14 10 true (.Lg 11 none (some 13)),pg 15 10 true (.Za 1),pg 16 10 true
 (.bin .eql 14 15),p 17 (.pick 10 16 (.k (.bool false))),p 4 (.Za 17)]) .ret))⟩
def L6:Z8:=⟨2,[.t 4],(.seq (.Zd [n 2 (.box 9 false 0),n 3 (.box 3 false 1),p 4 (.Za (.k .Lb))]) (.seq (.Zd [p 5 (.Zbu 119 [] [2,3]),p 4 (.Za 5)]) .ret))⟩
def stringslite_Cut:Z8:=⟨2,[.t 4,.t 5,.t 6],(.seq (.Zd [p 4 (.Za (.k (.str []))),p 5 (.Za (.k (.str []))),p 6 (.Za (.k (.bool false)))]) (.seq (.seq (.Zd [p 8 (.Za
 0),p 9 (.Za 1),w 10 (.call (.k (.fn 142 [] [])) [8,9]),p 7 (.Za 10)]) (.seq (.Zd [p 11 (.Za 7),p 12 (.bin .geq 11 (.k (.int .i64 0)))]) (.cond 12 (.seq (.Y7 [.op 0 (p 13
 (.Za 0)),.op 1 (p 14 (.Za 7)),.op 2 (p 15 (.Lg 13 none (some 14))),.op 3 (p 16 (.Za 0)),.op 4 (p 17 (.Za 7)),.op 5 (p 18 (.Za 1)),.op 6 (p 19 (.lenOf true 18)),.op 7 (p
 20 (.bin .add 17 19)),.op 8 (p 21 (.Lg 16 (some 20) none)),.op 9 (p 4 (.Za 15)),.op 10 (p 5 (.Za 21)),.op 11 (p 6 (.Za (.k (.bool true))))]) .ret) .skip))) (.seq (.Zi [0])
 (.seq (.Zd [p 22 (.Za 0),p 4 (.Za 22),p 5 (.Za (.k (.str []))),p 6 (.Za (.k (.bool false)))]) .ret))))⟩
def Xy:Zx:=(.seq (.Zi [0,6,8]) (.seq (.seq (.Zd [p 33 (.Za 8),p 34 (.Za 0),p 35 (.lenOf true 34),p 36 (.bin .lss 33 35)]) (.cond 36 .skip (.exit 0)))
 (.seq (.block 1 (.seq (.Zd [p 39 (.Za 0),p 40 (.Za 8),p 41 (.Q4 39 40),w 42 (.call (.k (.fn 146 [] [])) [6,41])]) (.cond 42 (.seq (.Zd [p 43 (.Za 8),p 4 (.Za 43)]) .ret)
 .skip))) (.Zd [p 37 (.Za 8),p 38 (.bin .add 37 (.k (.int .i64 1))),p 8 (.Za 38)]))))
def Y1:Zx:=(.seq (.Zi [1,45]) (.seq (.Zd [w 46 (.Xq 45),p 47 (.Zt 0 46)]) (.seq (.cond 47 .skip (.exit 2)) (.block 3 (.seq (.Zd [p 48 (.Zt 1 46),
 p 49 (.Zt 2 46),p 9 (.Za 48),p 10 (.Za 49)]) (.seq (.Zd [p 50 (.Za 1),p 51 (.Za 10),w 52 (.call (.k (.fn 143 [] [])) [50,51]),p 53 (.bin .geq 52 (.k (.int .i64 0)))]) (.cond
 53 (.seq (.Zd [p 54 (.Za 9),p 4 (.Za 54)]) .ret) .skip)))))))
def strings_IndexAny:Z8:=⟨2,[.t 4],(.seq (.Zd [p 4 (.Za (.k (.int .i64 0)))]) (.seq (.seq (.Zd [p 11 (.Za 1),p 12 (.bin .eql 11 (.k (.str [])))]) (.cond 12 (.seq (.Zd
 [p 4 (.Za (.k (.int .i64 (-1))))]) .ret) .skip)) (.seq (.seq (.Zd [p 13 (.Za 1),p 14 (.lenOf true 13),p 15 (.bin .eql 14 (.k (.int .i64 1)))]) (.cond 15 (.seq (.Zd [p 16 (.Za
 1),p 17 (.Q4 16 (.k (.int .i64 0))),p 18 (.conv .i32 17),p 5 (.Za 18)]) (.seq (.seq (.Zd [p 19 (.Za 5),p 20 (.bin .geq 19 (.k (.int .i32 128)))]) (.cond 20 (.Zd [p 5 (.Za
 (.k (.int .i32 65533)))]) .skip)) (.seq (.Zd [p 21 (.Za 0),p 22 (.Za 5),w 23 (.call (.k (.fn 143 [] [])) [21,22]),p 4 (.Za 23)]) .ret))) .skip)) (.seq (.Zi [0,1]) (.seq (.seq
 (.Zd [p 24 (.Za 0),p 25 (.lenOf true 24),w 26 (.call (.k (.fn 144 [] [])) [25])]) (.cond 26 (.seq (.Zd [p 28 (.Za 1),w 29 (.call (.k (.fn 145 [] [])) [28]),p 27 (.Za 29),p
 30 (.Zt 0 27),p 31 (.Zt 1 27),n 6 (.alloc 197 false (List.replicate 256 (.bool false))),w0 (.store 256 6 30),p 7 (.Za 31)]) (.seq (.Zi [0,1,6,7]) (.seq (.Zd [p 32 (.Za
 7)]) (.cond 32 (.seq (.seq (.Zd [p 8 (.Za (.k (.int .i64 0)))]) (.block 0 (.loop Xy))) (.seq (.Zi []) (.seq (.Zd [p 4 (.Za (.k (.int .i64 (-1))))]) .ret))) .skip))))
 .skip)) (.seq (.Zi [0,1]) (.seq (.seq (.Zd [p 44 (.Za 0),n 45 (.Zf8 44)]) (.block 2 (.loop Y1))) (.seq (.Zi []) (.seq (.Zd [p 4 (.Za (.k (.int .i64 (-1))))])
 .ret)))))))))⟩
def V2:Zx:=(.seq (.Zi [0,2,3,4,8,9,70,71,72]) (.seq (.Zd [p 73 (.bin .lss 72 71)]) (.seq (.cond 73 .skip (.exit 0)) (.seq (.block 1 (.seq (.Zd
 [p 74 (.Vn 1 70 72),r 75 (.load none 74),p 12 (.Za 75)]) (.Zd [p 76 (.Za 9),p 77 (.bin .mul (.k (.int .i64 10)) 76),p 78 (.Za 12),p 79 (.conv .i64 78),p 80 (.bin .add
 77 79),p 9 (.Za 80)]))) (.seq (.Zi [0,2,3,4,8,9,70,71,72]) (.Zd [p 81 (.bin .add 72 (.k (.int .i64 1))),p 72 (.Za 81)]))))))
def Yc:Z8:=⟨1,[.t 2,.t 3,.t 4,.t 5],(.seq (.Zd [p 2 (.Za (.k (.bool false))),p 3 (.Za (.k .Zk)),p 4 (.Za (.k (.int .i64 0))),p 5 (.Za (.k
 (.bool false)))]) (.seq (.Zd [p 13 (.Za 0),p 14 (.Zbu 120 [13] []),p 15 (.Za 0),p 16 (.Zbu 121 [15] []),p 6 (.Za 14),p 7 (.Za 16)]) (.seq (.Zd [p 17 (.Za 6),w 18 (.call
 17 [(.k (.str [43,45]))]),p 19 (.Za 18),pg 20 19 true (.Za 0),pg 21 19 true (.Z6 20),pg 22 19 true (.Zj 0 21),pg 23 19 true (.Zj 0 22),rg 24 19 true (.load none 23),
 pg 25 19 true (.Q4 24 (.k (.int .i64 0))),pg 26 19 true (.bin .eql 25 (.k (.int .u8 45))),p 27 (.pick 19 26 (.k (.bool false))),p 2 (.Za 27)]) (.seq (.Zi [0,2,6,7]) (.seq
 (.Zd [p 28 (.Za 7),w 29 (.call 28 []),p 3 (.Za 29)]) (.seq (.Zd [p 30 (.Za 3),p 31 (.lenOf false 30),p 4 (.Za 31)]) (.seq (.seq (.Zd [p 32 (.Za 6),w 33 (.call 32 [(.k (.str
 [46]))])]) (.cond 33 (.Zd [p 34 (.Za 3),p 35 (.Za 7),w 36 (.call 35 []),w 37 (.append 5 1 1 [(.int .u8 0)] 34 36),p 3 (.Za 37)]) .skip)) (.seq (.seq (.Zd [p 38 (.Za 3),p
 39 (.lenOf false 38),p 40 (.bin .eql 39 (.k (.int .i64 0)))]) (.cond 40 (.seq (.Zd [p 2 (.Za (.k (.bool false))),p 3 (.Za (.k .Zk)),p 4 (.Za (.k (.int .i64 0))),p 5 (.Za
 (.k (.bool false)))]) .ret) .skip)) (.seq (.seq (.Zd [p 41 (.Za 6),w 42 (.call 41 [(.k (.str [101,69]))])]) (.cond 42 (.seq (.Y7 [.op 0 (p 43 (.Za 6)),.op 1 (w 44 (.call 43
 [(.k (.str [43,45]))])),.op 2 (p 45 (.Za 44)),.op 3 (pg 46 45 true (.Za 0)),.op 4 (pg 47 45 true (.Z6 46)),.op 5 (pg 48 45 true (.Zj 0 47)),.op 6 (pg 49 45 true (.Zj
 0 48)),.op 7 (rg 50 45 true (.load none 49)),.op 8 (pg 51 45 true (.Za 0)),.op 9 (pg 52 45 true (.Z6 51)),.op 10 (pg 53 45 true (.Zj 0 52)),.op 11 (pg 54 45 true (.Zj
 1 53)),.op 12 (rg 55 45 true (.load none 54)),.op 13 (pg 56 45 true (.bin .sub 55 (.k (.int .i64 1)))),.op 14 (pg 57 45 true (.Q4 50 56)),.op 15 (pg 58 45 true (.bin .eql 57 (.k
 (.int .u8 45)))),.op 16 (p 59 (.pick 45 58 (.k (.bool false)))),.op 17 (p 8 (.Za 59))]) (.seq (.Zi [0,2,3,4,7,8]) (.seq (.Zd [p 60 (.Za 7),w 61 (.call 60 []),p 9 (.Za
 (.k (.int .i64 0))),p 10 (.Za 61)]) (.seq (.seq (.Zd [p 62 (.Za 10),p 63 (.lenOf false 62),p 64 (.bin .lss 63 (.k (.int .i64 1))),p 65 (.Za 64),pg 66 65 false (.Za 10),pg
 67 65 false (.lenOf false 66),pg 68 65 false (.bin .gtr 67 (.k (.int .i64 3))),p 69 (.pick 65 (.k (.bool true)) 68)]) (.seq (.Zi [0,2,3,4,8,9,10,69]) (.cond 69 (.seq (.Zd
 [p 2 (.Za (.k (.bool false))),p 3 (.Za (.k .Zk)),p 4 (.Za (.k (.int .i64 0))),p 5 (.Za (.k (.bool false)))]) .ret) .skip))) (.seq (.Zi [0,2,3,4,8,9,10]) (.seq (.seq
 (.Zd [p 70 (.Za 10),p 71 (.lenOf false 70),p 72 (.Za (.k (.int .i64 0)))]) (.block 0 (.loop V2))) (.seq (.Zi [0,2,3,4,8,9]) (.seq (.seq (.Zd [p 82
 (.Za 8)]) (.cond 82 (.Zd [p 83 (.Za 9),p 84 (.un .neg 83),p 9 (.Za 84)]) .skip)) (.Zd [p 85 (.Za 4),p 86 (.Za 9),p 87 (.bin .add 85 86),p 4 (.Za 87)]))))))))) .skip)) (.seq
 (.Zi [0,2,3,4]) (.seq (.Y7 [.op 3 (p 91 (.Za 0)),.op 4 (p 92 (.Z6 91)),.op 5 (p 93 (.Zj 0 92)),.op 6 (p 94 (.Zj 1 93)),.op 7 (r 95 (.load none 94)),.op 8 (p 96
 (.Za 0)),.op 9 (p 97 (.Z6 96)),.op 10 (p 98 (.Zj 0 97)),.op 11 (p 99 (.Zj 0 98)),.op 12 (r 100 (.load none 99)),.op 0 (p 88 (.Za 2)),.op 1 (p 89 (.Za 3)),.op 2 (p
 90 (.Za 4)),.op 13 (p 101 (.lenOf true 100)),.op 14 (p 102 (.bin .eql 95 101)),.op 15 (p 2 (.Za 88)),.op 16 (p 3 (.Za 89)),.op 17 (p 4 (.Za 90)),.op 18 (p 5 (.Za 102))])
 .ret)))))))))))⟩
def Yl:Zx:=(.seq (.Zi [0,1,5,6]) (.seq (.seq (.Zd [p 8 (.Za 6),p 9 (.Za 1),p 10 (.bin .lss 8 9)]) (.cond 10 .skip (.exit 0))) (.seq (.block 1 (.seq (.Zd
 [p 7 (.Za (.k (.int .i64 0)))]) (.seq (.seq (.Zd [p 13 (.Za 6),p 14 (.Za 0),p 15 (.lenOf false 14),p 16 (.bin .lss 13 15)]) (.cond 16 (.Zd [p 17 (.Za 0),p 18 (.Za 6),p 19
 (.Vn 1 17 18),r 20 (.load none 19),p 21 (.conv .i64 20),p 7 (.Za 21)]) .skip)) (.seq (.Zi [0,1,5,6,7]) (.seq (.Zd [p 22 (.Za 5),p 23 (.bin .mul (.k (.int .i64 10))
 22),p 24 (.Za 7),p 25 (.bin .add 23 24),p 5 (.Za 25)]) (.seq (.Zd [p 26 (.Za 5),p 27 (.bin .gtr 26 (.k (.int .i64 2147483648)))]) (.cond 27 (.seq (.Zd [p 28 (.Za 5),p 4 (.Za
 28)]) .ret) .skip))))))) (.seq (.Zi [0,1,5,6]) (.Zd [p 11 (.Za 6),p 12 (.bin .add 11 (.k (.int .i64 1))),p 6 (.Za 12)])))))
def Gy:Z8:=⟨2,[.t 4],(.seq (.Zd [p 4 (.Za (.k (.int .i64 0)))]) (.seq (.Zd [p 5 (.Za (.k (.int .i64 0)))]) (.seq (.seq (.Zd [p 6 (.Za (.k (.int .i64 0)))]) (.block
 0 (.loop Yl))) (.seq (.Zi [5]) (.seq (.Zd [p 29 (.Za 5),p 4 (.Za 29)]) .ret)))))⟩
def Yb:Zx:=(.seq (.Zi [0,1,5,6]) (.seq (.seq (.Zd [p 9 (.Za 6),p 10 (.Za 0),p 11 (.lenOf false 10),p 12 (.bin .lss 9 11)]) (.cond 12 .skip (.exit 0)))
 (.seq (.block 1 (.block 2 (.seq (.Zd [p 16 (.Za 6),p 17 (.bin .lss 16 (.k (.int .i64 0))),p 15 (.Za 17)]) (.cond 15 (.Zd [p 18 (.Za 5),n 19 (.Qo 5 1 [(.int .u8 0)] [(0,
 1,(.k (.int .u8 0)))]),w 20 (.append 5 1 1 [(.int .u8 0)] 18 19),p 5 (.Za 20)]) (.seq (.Zd [p 22 (.Za 6),p 23 (.Za 1),p 24 (.bin .geq 22 23),p 21 (.Za 24)]) (.cond 21 (.Zd
 [p 25 (.Za 5),p 26 (.Za 0),p 27 (.Za 6),p 28 (.Vn 1 26 27),r 29 (.load none 28),n 30 (.Qo 5 1 [(.int .u8 0)] [(0,1,29)]),w 31 (.append 5 1 1 [(.int .u8 0)] 25 30),
 p 5 (.Za 31)]) .skip)))))) (.seq (.Zi [0,1,5,6]) (.Zd [p 13 (.Za 6),p 14 (.bin .add 13 (.k (.int .i64 1))),p 6 (.Za 14)])))))
def Ml:Z8:=⟨2,[.t 4],(.seq (.Zd [p 4 (.Za (.k .Zk))]) (.seq (.Zd [p 5 (.Za (.k .Zk))]) (.seq (.seq (.Zd [p 7 (.Za 1),p 8 (.Dy false [7,(.k
 (.int .i64 0))]),p 6 (.Za 8)]) (.block 0 (.loop Yb))) (.seq (.Zi [5]) (.seq (.Zd [p 32 (.Za 5),p 4 (.Za 32)]) .ret)))))⟩
def Ld:Zx:=(.seq (.Zi [0,3,4]) (.seq (.seq (.Zd [p 9 (.Za 4),p 10 (.bin .geq 9 (.k (.int .i64 0)))]) (.cond 10 .skip (.exit 0))) (.seq (.block 1 (.seq (.Zd
 [p 13 (.Za 0),p 14 (.Za 4),p 15 (.Vn 1 13 14),r 16 (.load none 15),p 17 (.bin .mul (.k (.int .u8 2)) 16),p 18 (.Za 3),p 19 (.bin .add 17 18),p 5 (.Za 19)]) (.seq (.Zi
 [0,4,5]) (.Zd [p 20 (.Za 0),p 21 (.Za 4),p 22 (.Za 5),p 23 (.bin .rem 22 (.k (.int .u8 10))),p 24 (.Za 5),p 25 (.bin .quo 24 (.k (.int .u8 10))),p 26 (.Vn 1 20 21),
 w0 (.store 1 26 23),p 3 (.Za 25)])))) (.seq (.Zi [0,3,4]) (.Zd [p 11 (.Za 4),p 12 (.bin .sub 11 (.k (.int .i64 1))),p 4 (.Za 12)])))))
def Xb:Z8:=⟨1,[.t 2],(.seq (.Zd [p 2 (.Za (.k (.int .i64 0)))]) (.seq (.Zd [p 3 (.Za (.k (.int .u8 0)))]) (.seq (.seq (.Zd [p 6 (.Za 0),p 7 (.lenOf false 6),
 p 8 (.bin .sub 7 (.k (.int .i64 1))),p 4 (.Za 8)]) (.block 0 (.loop Ld))) (.seq (.Zi [3]) (.seq (.Zd [p 27 (.Za 3),p 28 (.conv .i64 27),p 2 (.Za 28)]) .ret)))))⟩
def G6:Z8:=⟨0,[.t 0],(.seq (.Zd [p 0 (.Za (.k .Xk))]) (.seq (.Zd [n 1 (.mkMap),w0 (.F9 (.i .u8) 1 (.k (.int .u8 110)) (.k (.int .u8 10))),w0 (.F9 (.i .u8)
 1 (.k (.int .u8 114)) (.k (.int .u8 13))),w0 (.F9 (.i .u8) 1 (.k (.int .u8 116)) (.k (.int .u8 9))),w0 (.F9 (.i .u8) 1 (.k (.int .u8 98)) (.k (.int .u8 8))),w0 (.F9 (.i .u8)
 1 (.k (.int .u8 102)) (.k (.int .u8 12))),p 2 (.Za 1),p 0 (.Za 2)]) .ret))⟩
def Gg:Zx:=(.seq (.Zi [0,1,2,7,8]) (.seq (.Zd [p 9 (.bin .lss 8 7)]) (.seq (.cond 9 .skip (.exit 0)) (.seq (.block 1 (.seq (.Zd [p 10 (.Za 8),p 4 (.Za
 10)]) (.seq (.Zd [r 11 (.load none 1),p 12 (.Za 4),p 13 (.Q4 11 12),w 14 (.call (.k (.fn 122 [] [])) [13]),p 5 (.Za 14)]) (.seq (.seq (.Zd [p 15 (.Za 5),r 16 (.load none
 2),p 17 (.bin .geq 15 16)]) (.cond 17 (.Zd [p 5 (.Za (.k (.int .i64 (-1))))]) .skip)) (.seq (.Zd [p 18 (.Za 0),p 19 (.Za 5),w 20 (.call 18 [19]),p 21 (.un .not 20)]) (.cond
 21 .ret .skip)))))) (.seq (.Zi [0,1,2,7,8]) (.Zd [p 22 (.bin .add 8 (.k (.int .i64 1))),p 8 (.Za 22)]))))))
def W9:Z8:=⟨3,[],(.seq (.Zd [r 6 (.load none 1),p 7 (.lenOf true 6),p 8 (.Za (.k (.int .i64 0)))]) (.block 0 (.loop Gg)))⟩
def Xc:Zx:=(.seq (.Zi [175]) (.seq (.Zd [w 176 (.Xq 175),p 177 (.Zt 0 176)]) (.seq (.cond 177 .skip (.exit 9)) (.block 10 (.seq (.Zd [p 178 (.Zt
 1 176),p 179 (.Zt 2 176),p 5 (.Za 178),p 6 (.Za 179)]) (.seq (.Zd [p 180 (.Za 6),p 181 (.bin .eql 180 (.k (.int .i32 65533)))]) (.cond 181 (.seq (.Zd [p 182 (.Za 5),p 4
 (.Za 182)]) .ret) .skip)))))))
def Zaa:Zx:=(.seq (.Zi [0,7,8,9,12]) (.seq (.seq (.Zd [p 48 (.Za 12),p 49 (.Za 7),p 50 (.lenOf true 49),p 51 (.bin .lss 48 50)]) (.cond 51 .skip
 (.exit 3))) (.seq (.block 4 (.seq (.Y7 [.op 0 (p 54 (.Za 0)),.op 1 (p 55 (.Za 9)),.op 2 (p 56 (.Za 12)),.op 3 (p 57 (.bin .sub 55 56)),.op 4 (p 58 (.Q4 54 57)),.op 5 (p
 59 (.Za 7)),.op 6 (p 60 (.Za 8)),.op 7 (p 61 (.Za 12)),.op 8 (p 62 (.bin .sub 60 61)),.op 9 (p 63 (.Q4 59 62)),.op 10 (p 64 (.bin .neq 58 63))]) (.cond 64 .stuck .skip)))
 (.seq (.Zi [0,7,8,9,12]) (.Zd [p 52 (.Za 12),p 53 (.bin .add 52 (.k (.int .i64 1))),p 12 (.Za 53)])))))
def Ns:Zx:=(.seq (.Zi [0,7,8,9]) (.seq (.seq (.Zd [p 23 (.Za 9),p 24 (.Za 0),p 25 (.lenOf true 24),p 26 (.bin .lss 23 25)]) (.cond 26 .skip (.exit
 1))) (.block 2 (.scope (.seq (.seq (.Y7 [.op 0 (p 27 (.Za 0)),.op 1 (p 28 (.Za 9)),.op 2 (p 29 (.Q4 27 28)),.op 3 (p 30 (.Za 7)),.op 4 (p 31 (.Za 8)),.op 5 (p 32 (.Q4
 30 31)),.op 6 (p 33 (.bin .neq 29 32))]) (.cond 33 (.seq (.Y7 [.op 0 (p 34 (.Za 0)),.op 1 (p 35 (.Za 9)),.op 2 (p 36 (.bin .add 35 (.k (.int .i64 1)))),.op 3 (p 37 (.Lg 34
 (some 36) none)),.op 4 (p 38 (.Za 7)),.op 5 (p 39 (.Za 8)),.op 6 (p 40 (.Q4 38 39)),.op 7 (w 41 (.call (.k (.fn 84 [] [])) [37,40])),.op 8 (p 11 (.Za 41))]) (.seq (.Zi
 [0,7,8,9,11]) (.seq (.seq (.Zd [p 42 (.Za 11),p 43 (.bin .lss 42 (.k (.int .i64 0)))]) (.cond 43 (.seq (.Zd [p 4 (.Za (.k (.int .i64 (-1))))]) .ret) .skip)) (.Zd [p 44 (.Za
 9),p 45 (.Za 11),p 46 (.bin .add 45 (.k (.int .i64 1))),p 47 (.bin .add 44 46),p 9 (.Za 47)])))) .skip)) (.seq (.Zi [0,7,8,9]) (.seq (.seq (.Zd [p 12 (.Za (.k (.int .i64
 1)))]) (.block 3 (.loop Zaa))) (.seq (.Zi [8,9]) (.seq (.seq (.Zd [p 65 (.Za 9),p 66 (.Za 8),p 67 (.bin .sub 65 66),p 4 (.Za 67)]) .ret) (.seq .skip (.seq
 (.Zd [p 68 (.Za 10),p 69 (.bin .add 68 (.k (.int .i64 1))),p 10 (.Za 69)]) (.seq (.Zd [p 70 (.Za 9),p 71 (.bin .add 70 (.k (.int .i64 1))),p 9 (.Za 71)]) (.seq (.Zd [p 72
 (.Za (.k (.bool true))),pg 73 72 true (.Za 10),pg 74 72 true (.Za 9),wg 75 72 true (.call (.k (.fn 148 [] [])) [74]),pg 76 72 true (.bin .gtr 73 75),p 77 (.pick 72 76 (.k (.bool
 false))),p 78 (.Za 77),pg 79 78 true (.Za 9),pg 80 78 true (.Za 0),pg 81 78 true (.lenOf true 80),pg 82 78 true (.bin .lss 79 81),p 83 (.pick 78 82 (.k (.bool false))),p 84
 (.Za 83),pg 85 84 false (.Za (.k (.bool false))),pg 86 85 true (.Za 10),pg 87 85 true (.Za 9),pg 88 85 true (.bin .shr 87 (.k (.int .u64 4))),pg 89 85 true (.bin .add (.k (.int
 .i64 4)) 88),pg 90 85 true (.bin .geq 86 89),pg 91 84 false (.pick 85 90 (.k (.bool false))),pg 92 84 false (.Za 91),pg 93 92 true (.Za 9),pg 94 92 true (.Za 0),pg 95 92 true
 (.lenOf true 94),pg 96 92 true (.bin .lss 93 95),pg 97 84 false (.pick 92 96 (.k (.bool false))),p 98 (.pick 84 (.k (.bool true)) 97)]) (.cond 98 .stuck .skip))))))))))))))
def Zab:Zx:=(.seq (.Zi [0,7,8,9,14,15,16]) (.seq (.seq (.Zd [p 140 (.Za 16),p 141 (.Za 7),p 142 (.lenOf true 141),p 143 (.bin .lss 140 142)]) (.cond
 143 .skip (.exit 7))) (.seq (.block 8 (.seq (.Y7 [.op 0 (p 146 (.Za 0)),.op 1 (p 147 (.Za 9)),.op 2 (p 148 (.Za 16)),.op 3 (p 149 (.bin .sub 147 148)),.op 4 (p 150 (.Q4 146
 149)),.op 5 (p 151 (.Za 7)),.op 6 (p 152 (.Za 8)),.op 7 (p 153 (.Za 16)),.op 8 (p 154 (.bin .sub 152 153)),.op 9 (p 155 (.Q4 151 154)),.op 10 (p 156 (.bin .neq 150 155))])
 (.cond 156 (.exit 6) .skip))) (.seq (.Zi [0,7,8,9,14,15,16]) (.Zd [p 144 (.Za 16),p 145 (.bin .add 144 (.k (.int .i64 1))),p 16 (.Za 145)])))))
def Zac:Zx:=(.seq (.Zi [0,7,8,9,14,15]) (.seq (.seq (.Zd [p 121 (.Za 9),p 122 (.Za 0),p 123 (.lenOf true 122),p 124 (.bin .lss 121 123)]) (.cond
 124 .skip (.exit 5))) (.seq (.block 6 (.seq (.Zd [p 127 (.Za 0),p 128 (.Za 9),p 129 (.Q4 127 128),p 130 (.Za 14),p 131 (.bin .eql 129 130),p 132 (.Za 131),pg 133 132 true
 (.Za 0),pg 134 132 true (.Za 9),pg 135 132 true (.bin .sub 134 (.k (.int .i64 1))),pg 136 132 true (.Q4 133 135),pg 137 132 true (.Za 15),pg 138 132 true (.bin .eql 136 137),
 p 139 (.pick 132 138 (.k (.bool false)))]) (.seq (.Zi [0,7,8,9,14,15,139]) (.cond 139 (.seq (.seq (.Zd [p 16 (.Za (.k (.int .i64 2)))]) (.block 7 (.loop Zab)))
 (.seq (.Zi [8,9]) (.seq (.Zd [p 157 (.Za 9),p 158 (.Za 8),p 159 (.bin .sub 157 158),p 4 (.Za 159)]) .ret))) .skip)))) (.seq (.Zi [0,7,8,9,14,15]) (.Zd [p 125 (.Za
 9),p 126 (.bin .add 125 (.k (.int .i64 1))),p 9 (.Za 126)])))))
def Ku:Z8:=⟨2,[.t 4],(.seq (.Zd [p 4 (.Za (.k (.int .i64 0)))]) (.block 0 (.seq (.Zd [p 161 (.Za 1),p 162 (.bin .leq (.k (.int .i32 0)) 161),p 163 (.Za
 162),pg 164 163 true (.Za 1),pg 165 163 true (.bin .lss 164 (.k (.int .i32 128))),p 166 (.pick 163 165 (.k (.bool false))),p 160 (.Za 166)]) (.cond 160 (.seq (.Zd [p 167 (.Za
 0),p 168 (.Za 1),p 169 (.conv .u8 168),w 170 (.call (.k (.fn 84 [] [])) [167,169]),p 4 (.Za 170)]) .ret) (.seq (.Zd [p 172 (.Za 1),p 173 (.bin .eql 172 (.k (.int .i32 65533))),
 p 171 (.Za 173)]) (.cond 171 (.seq (.seq (.Zd [p 174 (.Za 0),n 175 (.Zf8 174)]) (.block 9 (.loop Xc))) (.seq (.Zi []) (.seq (.Zd [p 4 (.Za (.k (.int .i64
 (-1))))]) .ret))) (.seq (.Zd [p 184 (.Za 1),w 185 (.call (.k (.fn 147 [] [])) [184]),p 186 (.un .not 185),p 183 (.Za 186)]) (.cond 183 (.seq (.Zd [p 4 (.Za (.k (.int .i64 (-1))))])
 .ret) (.scope (.seq (.Zd [p 17 (.Za 1),p 18 (.r2s 17),p 7 (.Za 18)]) (.seq (.Zd [p 19 (.Za 7),p 20 (.lenOf true 19),p 21 (.bin .sub 20 (.k (.int .i64 1))),p 8 (.Za 21)])
 (.seq (.Zd [p 22 (.Za 8),p 9 (.Za 22)]) (.seq (.Zd [p 10 (.Za (.k (.int .i64 0)))]) (.seq (.block 1 (.loop Ns)) (.seq (.Zi []) (.seq (.seq (.Zd [p 4 (.Za
 (.k (.int .i64 (-1))))]) .ret) (.seq .skip (.seq (.cond (.k (.bool true)) (.seq (.Zd [p 99 (.Za 0),p 100 (.Za 9),p 101 (.Za 8),p 102 (.bin .sub 100 101),p 103 (.Lg 99 (some
 102) none),p 104 (.Za 1),p 105 (.r2s 104),w 106 (.call (.k (.fn 149 [] [])) [103,105]),p 13 (.Za 106)]) (.seq (.Zi [8,9,13]) (.seq (.Zd [p 107 (.Za 13),p 108 (.bin .geq
 107 (.k (.int .i64 0)))]) (.cond 108 (.seq (.Zd [p 109 (.Za 9),p 110 (.Za 13),p 111 (.bin .add 109 110),p 112 (.Za 8),p 113 (.bin .sub 111 112),p 4 (.Za 113)]) .ret) .skip))))
 (.scope (.seq (.Zd [p 114 (.Za 7),p 115 (.Za 8),p 116 (.Q4 114 115),p 14 (.Za 116)]) (.seq (.Zd [p 117 (.Za 7),p 118 (.Za 8),p 119 (.bin .sub 118 (.k (.int .i64 1))),
 p 120 (.Q4 117 119),p 15 (.Za 120)]) (.seq .skip (.block 5 (.loop Zac))))))) (.seq (.Zi []) (.seq (.Zd [p 4 (.Za (.k (.int .i64 (-1))))]) .ret))))))))))))))))))))⟩
def strings_shouldUseASCIISet:Z8:=⟨1,[.t 2],(.seq (.Zd [p 2 (.Za (.k (.bool false)))]) (.seq (.Zd [p 3 (.Za 0),p 4 (.bin .gtr 3 (.k (.int .i64 8))),p 2 (.Za 4)]) .ret))⟩
def V6:Zx:=(.seq (.Zi [0,2,4]) (.seq (.seq (.Zd [p 6 (.Za 4),p 7 (.Za 0),p 8 (.lenOf true 7),p 9 (.bin .lss 6 8)]) (.cond 9 .skip (.exit 0))) (.seq
 (.block 1 (.seq (.Zd [p 12 (.Za 0),p 13 (.Za 4),p 14 (.Q4 12 13),p 5 (.Za 14)]) (.seq (.seq (.Zd [p 15 (.Za 5),p 16 (.bin .geq 15 (.k (.int .u8 128)))]) (.cond 16 (.seq
 (.Zd [r 17 (.load (some 256) 2),w0 (.store 256 2 17),p 3 (.Za (.k (.bool false)))]) .ret) .skip)) (.Zd [p 18 (.Za 5),p 19 (.Be 256 1 2 18),w0 (.store 1 19 (.k (.bool true)))]))))
 (.seq (.Zi [0,2,4]) (.Zd [p 10 (.Za 4),p 11 (.bin .add 10 (.k (.int .i64 1))),p 4 (.Za 11)])))))
def strings_makeASCIISet:Z8:=⟨1,[.cell 2 (some 256),.t 3],(.seq (.Zd [n 2 (.alloc 197 true (List.replicate 256 (.bool false))),p 3 (.Za (.k (.bool false)))]) (.seq (.seq
 (.Zd [p 4 (.Za (.k (.int .i64 0)))]) (.block 0 (.loop V6))) (.seq (.Zi [2]) (.seq (.Zd [r 20 (.load (some 256) 2),w0 (.store 256 2 20),p 3 (.Za (.k (.bool
 true)))]) .ret))))⟩
def Jl:Z8:=⟨2,[.t 4],(.seq (.Zd [p 4 (.Za (.k (.bool false)))]) (.seq (.Zd [p 5 (.Za 0),p 6 (.Za 1),p 7 (.Z6 5),p 8 (.Be 256 1 7 6),r
 9 (.load none 8),p 4 (.Za 9)]) .ret))⟩
def Ui:Zx:=(.seq (.Zi [0,1,19,20]) (.seq (.Zd [p 21 (.bin .lss 20 19)]) (.seq (.cond 21 .skip (.exit 0)) (.seq (.block 1 (.seq (.Zd [p 22 (.Za 20),p
 5 (.Za 22)]) (.seq (.Y7 [.op 0 (p 23 (.Za 0)),.op 1 (p 24 (.Z6 23)),.op 2 (p 25 (.Zj 0 24)),.op 3 (p 26 (.Zj 0 25)),.op 4 (r 27 (.load none 26)),.op 5 (p 28 (.Za
 0)),.op 6 (p 29 (.Z6 28)),.op 7 (p 30 (.Zj 0 29)),.op 8 (p 31 (.Zj 1 30)),.op 9 (r 32 (.load none 31)),.op 10 (p 33 (.Q4 27 32)),.op 11 (p 34 (.Za 1)),.op 12 (p 35
 (.Za 5)),.op 13 (p 36 (.Q4 34 35)),.op 14 (p 37 (.bin .eql 33 36))]) (.seq (.Zi [0,1,19,20,37]) (.cond 37 (.seq (.Zd [p 38 (.Za 0),p 39 (.Z6 38),p 40 (.Zj 0 39),
 p 41 (.Zj 1 40),r 42 (.load none 41),p 43 (.bin .add 42 (.k (.int .i64 1))),p 44 (.Z6 38),p 45 (.Zj 0 44),p 46 (.Zj 1 45),w0 (.store 1 46 43)]) (.seq (.Zi []) (.seq
 (.Zd [p 4 (.Za (.k (.bool true)))]) .ret))) .skip))))) (.seq (.Zi [0,1,19,20]) (.Zd [p 47 (.bin .add 20 (.k (.int .i64 1))),p 20 (.Za 47)]))))))
def Jw:Z8:=⟨2,[.t 4],(.seq (.Zd [p 4 (.Za (.k (.bool false)))]) (.seq (.seq (.Y7 [.op 0 (p 6 (.Za 0)),.op 1 (p 7 (.Z6 6)),.op 2 (p 8 (.Zj 0 7)),.op
 3 (p 9 (.Zj 1 8)),.op 4 (r 10 (.load none 9)),.op 5 (p 11 (.Za 0)),.op 6 (p 12 (.Z6 11)),.op 7 (p 13 (.Zj 0 12)),.op 8 (p 14 (.Zj 0 13)),.op 9 (r 15 (.load none 14)),
 .op 10 (p 16 (.lenOf true 15)),.op 11 (p 17 (.bin .eql 10 16))]) (.seq (.Zi [0,1,17]) (.cond 17 (.seq (.Zd [p 4 (.Za (.k (.bool false)))]) .ret) .skip))) (.seq (.Zi [0,1])
 (.seq (.seq (.Zd [p 18 (.Za 1),p 19 (.lenOf true 18),p 20 (.Za (.k (.int .i64 0)))]) (.block 0 (.loop Ui))) (.seq (.Zi []) (.seq (.Zd [p 4 (.Za (.k (.bool
 false)))]) .ret))))))⟩
def Up:Zx:=(.seq (.Zi [0,3]) (.seq (.seq (.Zd [p 4 (.Za 0),w 5 (.call (.k (.fn 120 [] [])) [4,(.k (.str [48,49,50,51,52,53,54,55,56,57]))])])
 (.cond 5 .skip (.exit 0))) (.block 1 (.Y7 [.op 1 (p 7 (.Za 0)),.op 2 (p 8 (.Z6 7)),.op 3 (p 9 (.Zj 0 8)),.op 4 (p 10 (.Zj 0 9)),.op 5 (r 11 (.load none 10)),.op 6 (p
 12 (.Za 0)),.op 7 (p 13 (.Z6 12)),.op 8 (p 14 (.Zj 0 13)),.op 9 (p 15 (.Zj 1 14)),.op 10 (r 16 (.load none 15)),.op 0 (p 6 (.Za 3)),.op 11 (p 17 (.bin .sub 16 (.k (.int
 .i64 1)))),.op 12 (p 18 (.Q4 11 17)),.op 13 (p 19 (.bin .sub 18 (.k (.int .u8 48)))),.op 14 (n 20 (.Qo 5 1 [(.int .u8 0)] [(0,1,19)])),.op 15 (w 21 (.append 5 1 1 [(.int
 .u8 0)] 6 20)),.op 16 (p 3 (.Za 21))]))))
def Yy:Z8:=⟨1,[.t 2],(.seq (.Zd [p 2 (.Za (.k .Zk))]) (.seq (.Zd [p 3 (.Za (.k .Zk))]) (.seq (.block 0 (.loop Up)) (.seq
 (.Zi [3]) (.seq (.Zd [p 22 (.Za 3),p 2 (.Za 22)]) .ret)))))⟩
def Cy:Z8:=⟨1,[.t 2],(.seq (.Zd [p 2 (.Za (.k (.int .i64 0)))]) (.seq (.block 0 (.seq (.Zd [p 4 (.Za 0),p 5 (.bin .geq 4 (.k (.int .u8 48))),p 6 (.Za 5),pg 7
 6 true (.Za 0),pg 8 6 true (.bin .leq 7 (.k (.int .u8 57))),p 9 (.pick 6 8 (.k (.bool false))),p 3 (.Za 9)]) (.cond 3 (.seq (.Zd [p 10 (.Za 0),p 11 (.bin .sub 10 (.k (.int .u8
 48))),p 12 (.conv .i64 11),p 2 (.Za 12)]) .ret) (.seq (.Zd [p 14 (.Za 0),p 15 (.bin .geq 14 (.k (.int .u8 97))),p 16 (.Za 15),pg 17 16 true (.Za 0),pg 18 16 true (.bin .leq
 17 (.k (.int .u8 122))),p 19 (.pick 16 18 (.k (.bool false))),p 13 (.Za 19)]) (.cond 13 (.seq (.Zd [p 20 (.Za 0),p 21 (.bin .sub 20 (.k (.int .u8 97))),p 22 (.conv .i64 21),
 p 23 (.bin .add 22 (.k (.int .i64 10))),p 2 (.Za 23)]) .ret) (.seq (.Zd [p 25 (.Za 0),p 26 (.bin .geq 25 (.k (.int .u8 65))),p 27 (.Za 26),pg 28 27 true (.Za 0),pg 29 27 true
 (.bin .leq 28 (.k (.int .u8 90))),p 30 (.pick 27 29 (.k (.bool false))),p 24 (.Za 30)]) (.cond 24 (.seq (.Zd [p 31 (.Za 0),p 32 (.bin .sub 31 (.k (.int .u8 65))),p 33 (.conv
 .i64 32),p 34 (.bin .add 33 (.k (.int .i64 10))),p 2 (.Za 34)]) .ret) .skip))))))) (.seq (.Zi []) (.seq (.Zd [p 2 (.Za (.k (.int .i64 99)))]) .ret))))⟩
def Q2:Z8:=⟨1,[.t 2],(.seq (.Zd [p 2 (.Za (.k (.bool false)))]) (.seq (.block 0 (.seq (.Zd [p 4 (.Za 0),p 5 (.bin .leq (.k (.int .i32 0)) 4),p 6 (.Za
 5),pg 7 6 true (.Za 0),pg 8 6 true (.bin .lss 7 (.k (.int .i32 55296))),p 9 (.pick 6 8 (.k (.bool false))),p 3 (.Za 9)]) (.cond 3 (.seq (.Zd [p 2 (.Za (.k (.bool true)))]) .ret)
 (.seq (.Zd [p 11 (.Za 0),p 12 (.bin .lss (.k (.int .i32 57343)) 11),p 13 (.Za 12),pg 14 13 true (.Za 0),pg 15 13 true (.bin .leq 14 (.k (.int .i32 1114111))),p 16 (.pick 13
 15 (.k (.bool false))),p 10 (.Za 16)]) (.cond 10 (.seq (.Zd [p 2 (.Za (.k (.bool true)))]) .ret) .skip))))) (.seq (.Zi []) (.seq (.Zd [p 2 (.Za (.k (.bool false)))]) .ret))))⟩
def bytealg_Cutover:Z8:=⟨1,[.t 2],(.seq (.Zd [p 2 (.Za (.k (.int .i64 0)))]) (.seq (.Zd [p 3 (.Za 0),p 4 (.bin .add 3 (.k (.int .i64 16))),p 5 (.bin .quo 4 (.k (.int .i64
 8))),p 2 (.Za 5)]) .ret))⟩
structure Yt (T:Tab):Prop where
 en:T.en 84=some Ud
structure Sn (T:Tab):Prop where
 en:T.en 118=some M8
structure Rr (T:Tab):Prop where
 en:T.en 142=some Ue
structure Ry (T:Tab):Prop where
 e:T.en 67=none
 f:T.fn 67=some Y2
 strings_IndexByte:Yt T
structure Ln (T:Tab):Prop where
 e:T.en 72=none
 f:T.fn 72=some Uv
structure Gt (T:Tab):Prop where
 e:T.en 79=none
 f:T.fn 79=some Ju
structure Rz (T:Tab):Prop where
 e:T.en 82=none
 f:T.fn 82=some Ll
 Y2:Ry T
structure K2 (T:Tab):Prop where
 e:T.en 85=none
 f:T.fn 85=some Qs
structure W1 (T:Tab):Prop where
 e:T.en 86=none
 f:T.fn 86=some Jr
structure Mf (T:Tab):Prop where
 e:T.en 88=none
 f:T.fn 88=some Kc
structure Lq (T:Tab):Prop where
 e:T.en 90=none
 f:T.fn 90=some K8
 Kc:Mf T
structure Vi (T:Tab):Prop where
 e:T.en 92=none
 f:T.fn 92=some Ki
structure W0 (T:Tab):Prop where
 e:T.en 96=none
 f:T.fn 96=some Q7
structure Lp (T:Tab):Prop where
 e:T.en 101=none
 f:T.fn 101=some Uw
structure Gp (T:Tab):Prop where
 e:T.en 102=none
 f:T.fn 102=some K7
structure Gq (T:Tab):Prop where
 e:T.en 103=none
 f:T.fn 103=some Uu
structure Gl (T:Tab):Prop where
 e:T.en 104=none
 f:T.fn 104=some Kg
structure Ga (T:Tab):Prop where
 e:T.en 105=none
 f:T.fn 105=some Ky
structure M0 (T:Tab):Prop where
 e:T.en 107=none
 f:T.fn 107=some Jq
structure Lr (T:Tab):Prop where
 e:T.en 108=none
 f:T.fn 108=some Ux
 Kc:Mf T
structure Uk (T:Tab):Prop where
 e:T.en 109=none
 f:T.fn 109=some Kl
 Zy6:Sn T
structure Ct (T:Tab):Prop where
 e:T.en 110=none
 f:T.fn 110=some Gj
structure G1 (T:Tab):Prop where
 e:T.en 123=none
 f:T.fn 123=some stringslite_HasPrefix
structure Fe (T:Tab):Prop where
 e:T.en 140=none
 f:T.fn 140=some stringslite_Cut
 stringslite_Index:Rr T
structure I8 (T:Tab):Prop where
 e:T.en 114=none
 f:T.fn 114=some Gy
structure Dv (T:Tab):Prop where
 e:T.en 115=none
 f:T.fn 115=some Ml
structure Em (T:Tab):Prop where
 e:T.en 116=none
 f:T.fn 116=some Xb
structure Fw (T:Tab):Prop where
 e:T.en 117=none
 f:T.fn 117=some G6
structure M3 (T:Tab):Prop where
 e:T.en 144=none
 f:T.fn 144=some strings_shouldUseASCIISet
structure Lx (T:Tab):Prop where
 e:T.en 145=none
 f:T.fn 145=some strings_makeASCIISet
structure Yf (T:Tab):Prop where
 e:T.en 146=none
 f:T.fn 146=some Jl
structure U4 (T:Tab):Prop where
 e:T.en 120=none
 f:T.fn 120=some Jw
structure Wd (T:Tab):Prop where
 e:T.en 121=none
 f:T.fn 121=some Yy
 Jw:U4 T
structure Sq (T:Tab):Prop where
 e:T.en 122=none
 f:T.fn 122=some Cy
structure Xf (T:Tab):Prop where
 e:T.en 147=none
 f:T.fn 147=some Q2
structure B8 (T:Tab):Prop where
 e:T.en 148=none
 f:T.fn 148=some bytealg_Cutover
structure Vk (T:Tab):Prop where
 e:T.en 68=none
 f:T.fn 68=some Jf
 Qs:K2 T
structure Gs (T:Tab):Prop where
 e:T.en 78=none
 f:T.fn 78=some Kh
 Uw:Lp T
structure Kr (T:Tab):Prop where
 e:T.en 80=none
 f:T.fn 80=some Zu
 K7:Gp T
structure Gm (T:Tab):Prop where
 e:T.en 81=none
 f:T.fn 81=some Y9
 Zu:Kr T
 Uu:Gq T
 Kg:Gl T
 Ky:Ga T
structure X2 (T:Tab):Prop where
 e:T.en 83=none
 f:T.fn 83=some Kz
 Jf:Vk T
structure Rh (T:Tab):Prop where
 e:T.en 89=none
 f:T.fn 89=some Vu
 Ux:Lr T
 K8:Lq T
structure Ye (T:Tab):Prop where
 e:T.en 91=none
 f:T.fn 91=some Jk
 Kl:Uk T
structure Rq (T:Tab):Prop where
 e:T.en 94=none
 f:T.fn 94=some strings_HasPrefix
 stringslite_HasPrefix:G1 T
structure F0 (T:Tab):Prop where
 e:T.en 97=none
 f:T.fn 97=some strings_Cut
 stringslite_Cut:Fe T
structure Xs (T:Tab):Prop where
 e:T.en 106=none
 f:T.fn 106=some V1
 Jr:W1 T
 G6:Fw T
 Jq:M0 T
structure Lv (T:Tab):Prop where
 e:T.en 113=none
 f:T.fn 113=some Yc
 Jw:U4 T
 Yy:Wd T
structure C5 (T:Tab):Prop where
 e:T.en 119=none
 f:T.fn 119=some W9
 Cy:Sq T
structure Uf (T:Tab):Prop where
 e:T.en 143=none
 f:T.fn 143=some Ku
 strings_IndexByte:Yt T
 Q2:Xf T
 bytealg_Cutover:B8 T
structure Yr (T:Tab):Prop where
 e:T.en 64=none
 f:T.fn 64=some Qb
 Kh:Gs T
 Ju:Gt T
 Zu:Kr T
 Y9:Gm T
structure Hk (T:Tab):Prop where
 e:T.en 66=none
 f:T.fn 66=some Ua
 Kz:X2 T
 Qb:Yr T
structure Wx (T:Tab):Prop where
 e:T.en 70=none
 f:T.fn 70=some Vd
 Kc:Mf T
 Vu:Rh T
 K8:Lq T
structure Zgh (T:Tab):Prop where
 e:T.en 71=none
 f:T.fn 71=some Zaj
 Jk:Ye T
 Ki:Vi T
structure Nw (T:Tab):Prop where
 e:T.en 87=none
 f:T.fn 87=some La
 Jr:W1 T
 V1:Xs T
 Jq:M0 T
structure Cb (T:Tab):Prop where
 e:T.en 100=none
 f:T.fn 100=some L9
 Yc:Lv T
 Gy:I8 T
 Ml:Dv T
 Xb:Em T
 Gj:Ct T
structure I7 (T:Tab):Prop where
 e:T.en 112=none
 f:T.fn 112=some L6
 W9:C5 T
structure Gv (T:Tab):Prop where
 e:T.en 141=none
 f:T.fn 141=some strings_IndexAny
 Ku:Uf T
 strings_shouldUseASCIISet:M3 T
 strings_makeASCIISet:Lx T
 Jl:Yf T
structure Fv (T:Tab):Prop where
 e:T.en 69=none
 f:T.fn 69=some G5
 Jr:W1 T
 La:Nw T
structure Fb (T:Tab):Prop where
 e:T.en 95=none
 f:T.fn 95=some N9
 L6:I7 T
structure Mt (T:Tab):Prop where
 e:T.en 98=none
 f:T.fn 98=some strings_ContainsAny
 strings_IndexAny:Gv T
structure Fx (T:Tab):Prop where
 e:T.en 99=none
 f:T.fn 99=some G7
 L9:Cb T
structure Rl (T:Tab):Prop where
 e:T.en 75=none
 f:T.fn 75=some V0
 strings_HasPrefix:Rq T
 N9:Fb T
 Q7:W0 T
structure Rk (T:Tab):Prop where
 e:T.en 76=none
 f:T.fn 76=some Vz
 strings_Cut:F0 T
 N9:Fb T
 Q7:W0 T
structure Mp (T:Tab):Prop where
 e:T.en 77=none
 f:T.fn 77=some Yx
 strings_ContainsAny:Mt T
 G7:Fx T
 L9:Cb T
structure Ca (T:Tab):Prop where
 e:T.en 63=none
 f:T.fn 63=some Ni
 V0:Rl T
 Vz:Rk T
 Yx:Mp T
structure Zcc (T:Tab):Prop where
 e:T.en 65=none
 f:T.fn 65=some Bf
 Ll:Rz T
 Ni:Ca T
structure So (T:Tab):Prop where
 e:T.en 111=none
 f:T.fn 111=some Ra
 Ll:Rz T
 Ni:Ca T
structure Sp (T:Tab):Prop where
 e:T.en 93=none
 f:T.fn 93=some Ya
 Gj:Ct T
 Ra:So T
structure E3 (T:Tab):Prop where
 e:T.en 74=none
 f:T.fn 74=some N8
 Ya:Sp T
end Go.Ev.B

/- Lists that grow: a slice value, and the cells that it holds. -/
namespace Go.Ev
open Go
variable {T : Tab} {st : St}
theorem Frm.Yk (h:st.Wf) (n:Nat):Frm [n] st ⟨Yk st.h n,st.nx⟩:=
 ⟨Nat.le_refl _,⟨fun m q hq=>by
   rw[Yw]at hq
   split at hq
   ·cases hq
   ·exact h.lt _ _ hq,h.nd.sublist Zjn⟩,fun m hm hs=>by
   rw[Yw,if_neg]
   rintro rfl
   exact hs List.mem_cons_self⟩
theorem Frm.refl (h:st.Wf) (S:List Nat):Frm S st st:=(Ext.refl h).fr S
theorem Ext.Qh {st s:St} (a:Ext st s) {n:Nat} {o p:Z7} (hg:Zh s.h n=some p) (hn:st.nx≤n):Ext st ⟨Qi s.h n o,s.nx⟩:=
 ((a.fr []).trans (Frm.set a.wf hg) (fun m hm=> .inr (by simp at hm;omega))).ext (by simp)
inductive E6 (h:Heap) (v:AV) (n ty es k:Nat) (cs:List AV):Prop where
 | nil:v= .Zk→cs=[]→k=0→E6 h v n ty es k cs
 | buf:v= .slice n 0 k .full→Zh h n=some (.buf ty es cs)→cs.length=k*es→E6 h v n ty es k cs
 | made (ty':Nat):v= .slice n 0 k (.known k)→Zh h n=some (.cells ty' false cs)→cs.length=k*es→E6 h v n ty es k cs
theorem E6.lenOf {h:Heap} {v:AV} {n ty es k:Nat} {cs:List AV} {ev:AO→AV} {x:AO} (a:E6 h v n ty es k cs) (hx:ev x=v):PO.run ev (.lenOf false x)=some (.int .i64 k):=by
 rcases a with ⟨h1,h2,h3⟩ | ⟨h1,h2,h3⟩ | ⟨ty',h1,h2,h3⟩
 ·subst h3;simp[PO.run,hx,h1]
 ·simp[PO.run,hx,h1]
 ·simp[PO.run,hx,h1]
structure Grown (st:St) (n ty es k:Nat) (cs:List AV) (v:AV) (s:St) (n':Nat):Prop where
 sl:E6 s.h v n' ty es k cs
 Yo:Frm [n] st s
 new:n'=n∨st.nx≤n'
 lt:n<st.nx→n'<s.nx
theorem E6.append (hwf:st.Wf) {v x:AV} {n ty es k j b:Nat} {cs new:List AV} (a:E6 st.h v n ty es k cs) (hx:Br st.h es x=some (j,new)) (hj:new.length=j*es)
  (hsc:new.all AV.sc=true) (hb:(k+j)*b≤35184372088832) (hb':k+j≤35184372088832) (hm:0<j∨¬∃c,v= .slice n 0 k (.known c)):
  Jg (Ym ty es b st v x) fun v' s=>∃n',Grown st n ty es (k+j) (cs++new) v' s n':=by
 unfold Ym
 rw[hx]
 simp only
 have hnil0:j=0→new=[]:=fun h=>List.length_eq_zero_iff.1 (by rw[hj,h];simp)
 rcases a with ⟨h1,h2,h3⟩ | ⟨h1,h2,h3⟩ | ⟨ty',h1,h2,h3⟩
 ·subst h1;subst h2;subst h3
  simp only[Nat.zero_add]at hb hb'⊢
  by_cases hj0:j=0
  ·rw[if_pos hj0]
   exact⟨n,.nil rfl (by rw[hnil0 hj0];rfl) hj0,.refl hwf _,.inl rfl,id⟩
  ·rw[if_neg hj0,if_pos ⟨hb,hb'⟩]
   refine⟨st.nx,.buf rfl (by simp[Zh]) (by simpa using hj),(Ext.new hwf _).fr _,.inr (Nat.le_refl _),fun _=>Nat.lt_succ_self _⟩
 ·subst h1
  simp only
  rw[if_pos ⟨hb,hb'⟩]
  simp only[h2]
  rw[if_pos ⟨trivial,trivial,trivial,h3,hsc⟩]
  by_cases hj0:j=0
  ·rw[if_pos hj0]
   refine⟨n,?_,.refl hwf _,.inl rfl,id⟩
   subst hj0
   rw[hnil0 rfl]
   exact .buf rfl (by simpa using h2) (by simpa using h3)
  ·rw[if_neg hj0]
   refine⟨st.nx,.buf rfl (by simp[Zh]) (by simp[h3,hj,Nat.add_mul]),?_,.inr (Nat.le_refl _),fun _=>Nat.lt_succ_self _⟩
   exact(Frm.Yk hwf n).trans ((Ext.new (Frm.Yk hwf n).wf _).fr [n]) (by simp)
 ·subst h1
  simp only
  have hj0:0<j:=by
   rcases hm with h | h
   ·exact h
   ·exact absurd ⟨k,rfl⟩ h
  rw[if_pos ⟨hb,hb'⟩,if_neg (by omega)]
  simp only[Z1,h2]
  rw[if_pos (by omega)]
  refine⟨st.nx,.buf rfl (by simp[Zh,←h3]) (by simp[h3,hj,Nat.add_mul]),(Ext.new hwf _).fr _,.inr (Nat.le_refl _),fun _=>Nat.lt_succ_self _⟩
theorem E6.rd {h:Heap} {v:AV} {n ty es k:Nat} {cs:List AV} (a:E6 h v n ty es k cs) {o:Nat} (ho:o<cs.length):Zo h n o=cs[o]? :=by
 rcases a with ⟨h1,h2,h3⟩ | ⟨h1,h2,h3⟩ | ⟨ty',h1,h2,h3⟩
 ·subst h2;simp at ho
 ·simp[Zo,h2]
 ·simp[Zo,h2]
theorem E6.store (hwf:st.Wf) {v:AV} {n ty es k:Nat} {cs:List AV} (a:E6 st.h v n ty es k cs) {o:Nat} (ho:o<cs.length) {x:AV} (hx:x.sc=true):
  ∃h',Z5 st.h n o [x]=some h'∧E6 h' v n ty es k (cs.set o x)∧Frm [n] st ⟨h',st.nx⟩:=by
 rcases a with ⟨h1,h2,h3⟩ | ⟨h1,h2,h3⟩ | ⟨ty',h1,h2,h3⟩
 ·subst h2;simp at ho
 ·exact⟨_,Zyu h2 hx ho,.buf h1 (by rw[Mk h2,if_pos rfl]) (by simpa using h3),.set hwf h2⟩
 ·exact⟨_,Y8 h2 hx ho,.made ty' h1 (by rw[Mk h2,if_pos rfl]) (by simpa using h3),.set hwf h2⟩
theorem E6.Zp (hwf:st.Wf) {v:AV} {n ty es k c:Nat} {cs:List AV} (a:E6 st.h v n ty es k cs):E6 (Go.Ev.Zp c st.h) v n ty es k cs:=by
 rcases a with ⟨h1,h2,h3⟩ | ⟨h1,h2,h3⟩ | ⟨ty',h1,h2,h3⟩
 ·exact .nil h1 h2 h3
 ·exact .buf h1 (Qv hwf h2 rfl) h3
 ·exact .made ty' h1 (Qv hwf h2 rfl) h3
theorem Zkr:∀(a b:List AV) (o:Nat),o+b.length=a.length→K0 a o b=a.take o++b
 | a,[],o,h=>by simp only[K0,List.append_nil];rw[List.take_of_length_le (by simpa using Nat.le_of_eq h.symm)]
 | a,v::b,o,h=>by
   simp only[K0]
   simp only[List.length_cons]at h
   rw[Zkr _ b (o+1) (by simp;omega)]
   have h1:(a.set o v).take (o+1)=a.take o++[v]:=by
    rw[List.take_set]
    apply List.ext_getElem?
    intro k
    rw[List.getElem?_set]
    by_cases e:o=k
    ·subst e
     rw[if_pos rfl,if_pos (by simp;omega),List.getElem?_append_right (by simp;omega)]
     simp[show min o a.length=o by omega]
    ·rw[if_neg e]
     by_cases hk:k<o
     ·rw[List.getElem?_append_left (by simp;omega),List.getElem?_take,List.getElem?_take]
      rw[if_pos (by omega),if_pos hk]
     ·rw[List.getElem?_eq_none (by simp;omega),List.getElem?_eq_none (by simp;omega)]
   rw[h1,List.append_assoc];rfl
theorem Zo9 {a b:List AV} (h:b.length=a.length):K0 a 0 b=b:=by
 rw[Zkr a b 0 (by omega)];simp
theorem Mw {h:Heap} {n ty k:Nat} {l:Bool} {cs:List AV} (hg:Zh h n=some (.cells ty l cs)) (hk:cs.length=k):Z1 h n 0 k=some cs:=by
 simp only[Z1,hg]
 rw[if_pos (by omega),List.drop_zero,List.take_of_length_le (by omega)]
theorem Zus {h:Heap} {n ty k o:Nat} {l:Bool} {cs:List AV} (hg:Zh h n=some (.cells ty l cs)) (hk:o+k≤cs.length):Z1 h n o k=some ((cs.drop o).take k):=by
 simp only[Z1,hg]
 rw[if_pos (by omega)]
theorem Zdl {h:Heap} {n ty:Nat} {l:Bool} {cs vs:List AV} (hg:Zh h n=some (.cells ty l cs)) (hk:vs.length=cs.length) (hs:vs.all AV.sc=true):Z5 h n 0 vs=some (Qi h n (.cells ty l vs)):=by
 simp only[Z5,hg]
 rw[if_pos ⟨by omega,hs⟩,Zo9 hk]
attribute [go_sem] RO.run NO.run WO.run Zbv K0 AV.nb apart
end Go.Ev

/- What the functions of lex tell: octets, regular characters, digits. -/
namespace Go.Ev
open Go
theorem Zf {n:Int} (h1: -9223372036854775808≤n) (h2:n≤9223372036854775807):IntKind.i64.wrap n=n:=Zgg h1 h2
variable {T : Tab} {st : St}
theorem Nh (H:B.Yt T) {s:List UInt8} {c:Int}:call T (.fn 84 [] []) [.str s,.int .u8 c] st=some (.int .i64 (Lib.indexByte s c.toNat.toUInt8),st):=by
 rw[Ziw H.en]
 rfl
theorem Zqc (H:B.Rr T) {s:List UInt8} {c:UInt8}:call T (.fn 142 [] []) [.str s,.str [c]] st=some (.int .i64 (Lib.indexByte s c),st):=by
 rw[Ziw H.en]
 rfl
def marks:List UInt8:=[0,9,10,12,13,32,40,41,60,62,91,93,123,125,47,37]
def Qu (c:UInt8):Bool:= !(decide (128≤c.toNat) && decide (c.toNat<160)) && decide (Lib.indexByte marks c<0)
def Uc:List UInt8→Bool
 | []=>true
 | c::r=>Qu c && Uc r
theorem Ic (H:B.Ry T) (hwf:st.Wf) (c:UInt8):Qa T st (.fn 67 [] []) [.int .u8 c.toNat] (.bool (Qu c)):=by
 refine Zs H.e H.f rfl ?_
 have hi:=fun st=>Nh (st:=st) H.strings_IndexByte (s:=[0,9,10,12,13,32,40,41,60,62,91,93,123,125,47,37]) (c:=c.toNat)
 by_cases h1:128≤c.toNat
 ·have h1':(128:Int)≤c.toNat:=by omega
  by_cases h2:c.toNat<160
  ·have h2':(c.toNat:Int)<160:=by omega
   simp[B.Y2,go_sem,h1',h2',Qu,h1,h2,Ext.refl hwf]
  ·have h2':¬(c.toNat:Int)<160:=by omega
   simp[B.Y2,go_sem,h1',h2',Qu,h1,h2,hi,Ext.refl hwf]
   rfl
 ·have h1':¬(128:Int)≤c.toNat:=by omega
  simp[B.Y2,go_sem,h1',Qu,h1,hi,Ext.refl hwf]
  rfl
theorem Ef (H:B.Vk T) (hwf:st.Wf) (c:UInt8):Qa T st (.fn 68 [] []) [.int .u8 c.toNat] (.bool (Qu c)):=by
 have h:(List.range 256).all (fun c=>Ze6 (T1 85 B.Qs) 40 B.Jf [.int .u8 c] (.bool (Qu (UInt8.ofNat c))))=true:=by kernel_rfl
 have:=V7 h c
 simp only[UInt8.ofNat_toNat]at this
 exact Gz (Zz5 H.Qs.e H.Qs.f (by kernel_rfl) (by kernel_rfl)) H.e H.f hwf rfl this
theorem Z9 {s:List UInt8} {i:Nat} (h:i<s.length):∃c,s[i]? =some c∧s.drop i=c::s.drop (i+1):=⟨s[i],List.getElem?_eq_getElem h,List.drop_eq_getElem_cons h⟩
theorem Zo3 (H:B.Rz T) (hwf:st.Wf) {s:List UInt8} (hs:s.length<9223372036854775807):∀(m i:Nat) (e:Env) (st1:St),i+m=s.length→Ext st st1→Zb e 0= .str s→Zb e 5= .int .i64 s.length→Zb e 6= .int .i64 i→
  Res (run T (.loop B.Hv) e st1) fun x e' s'=>Ext st s'∧((x= .exit 0∧Uc (s.drop i)=true)∨(x= .ret∧Zb e' 2= .bool false∧Uc (s.drop i)=false)):=by
 intro m
 induction m with
 | zero=>
   intro i e st1 hi hx g0 g5 g6
   have hil:i=s.length:=by omega
   subst hil
   rw[Zn]
   simp[B.Hv,go_sem,g0,g5,g6,hx,Uc]
 | succ m ih=>
   intro i e st1 hi hx g0 g5 g6
   have hil:i<s.length:=by omega
   have hil':(i:Int)<s.length:=by omega
   obtain⟨c,hc,hd⟩:=Z9 hil
   have ht:=fun st (h:St.Wf st)=>Ic H.Y2 h c
   rw[Zn]
   simp[B.Hv,go_sem,g0,g5,g6,hil',hc]
   refine(ht _ hx.wf).use fun s1 hs1=> ?_
   have hx1:=hx.trans hs1
   cases hr:Qu c with
   | false=>simp[go_sem,hr,hd,hx1,Uc]
   | true=>
     simp[go_sem,hr,hd,Uc]
     refine(ih (i+1) _ s1 (by omega) hx1 ?_ ?_ ?_)
     ·simp[go_sem]
     ·simp[go_sem]
     ·simp[go_sem];rw[Zf (by omega) (by omega)]
theorem Iw (H:B.Rz T) (hwf:st.Wf) {s:List UInt8} (hs:s.length<9223372036854775807):Qa T st (.fn 82 [] []) [.str s] (.bool (Uc s)):=by
 refine Zs H.e H.f rfl ?_
 simp[B.Ll,go_sem]
 refine(Zo3 H hwf hs s.length 0 _ st (by simp) (.refl hwf) ?_ ?_ ?_).mono ?_
 ·simp[go_sem]
 ·simp[go_sem]
 ·simp[go_sem]
 ·rintro x e s' ⟨hx,⟨rfl,h⟩ | ⟨rfl,h2,h⟩⟩
  ·simp only[List.drop_zero]at h
   simp[go_sem,h,hx]
  ·simp only[List.drop_zero]at h
   simp[go_sem,h,h2,hx]
theorem Zri (H:B.X2 T) (hwf:st.Wf) {s:List UInt8} (hs:s.length<9223372036854775807):∀(m i:Nat) (e:Env) (st1:St),i+m=s.length→Ext st st1→Zb e 0= .str s→Zb e 3= .int .i64 i→
  Res (run T (.loop B.M6) e st1) fun x e' s'=>Ext st s'∧((x= .exit 0∧Uc (s.drop i)=true)∨(x= .ret∧Zb e' 2= .bool false∧Uc (s.drop i)=false)):=by
 intro m
 induction m with
 | zero=>
   intro i e st1 hi hx g0 g6
   have hil:i=s.length:=by omega
   subst hil
   rw[Zn]
   simp[B.M6,go_sem,g0,g6,hx,Uc]
 | succ m ih=>
   intro i e st1 hi hx g0 g6
   have hil:i<s.length:=by omega
   have hil':(i:Int)<s.length:=by omega
   obtain⟨c,hc,hd⟩:=Z9 hil
   have ht:=fun st (h:St.Wf st)=>Ef H.Jf h c
   rw[Zn]
   simp[B.M6,go_sem,g0,g6,hil',hc]
   refine(ht _ hx.wf).use fun s1 hs1=> ?_
   have hx1:=hx.trans hs1
   cases hr:Qu c with
   | false=>simp[go_sem,hr,hd,hx1,Uc]
   | true=>
     simp[go_sem,hr,hd,Uc]
     refine(ih (i+1) _ s1 (by omega) hx1 ?_ ?_)
     ·simp[go_sem]
     ·simp[go_sem];rw[Zf (by omega) (by omega)]
theorem Cp (H:B.X2 T) (hwf:st.Wf) {s:List UInt8} (hs:s.length<9223372036854775807):Qa T st (.fn 83 [] []) [.str s] (.bool (Uc s)):=by
 refine Zs H.e H.f rfl ?_
 simp[B.Kz,go_sem]
 refine(Zri H hwf hs s.length 0 _ st (by simp) (.refl hwf) ?_ ?_).mono ?_
 ·simp[go_sem]
 ·simp[go_sem]
 ·rintro x e s' ⟨hx,⟨rfl,h⟩ | ⟨rfl,h2,h⟩⟩
  ·simp only[List.drop_zero]at h
   simp[go_sem,h,hx]
  ·simp only[List.drop_zero]at h
   simp[go_sem,h,h2,hx]
end Go.Ev

/- Loops over functions on symbolic data. -/
namespace Go.Ev
open Go
variable {T : Tab} {e : Env} {st : St}
theorem Ez {f:AO} {ps:List Nat} {assign body:Zx} {Q:Ex→Env→St→Prop}
  (h:Jg (call T (f.ev e) [.yield st.nx] ⟨(st.nx,.loop .ready e ps assign body)::st.h,st.nx+1⟩) fun _ s=>
    (Zh s.h st.nx=some (.loop .ready e ps assign body)∧Q .norm e ⟨Yk s.h st.nx,s.nx⟩)∨(∃x,Zh s.h st.nx=some (.loop (.done x) e ps assign body)∧Q x e ⟨Yk s.h st.nx,s.nx⟩)):
  Res (run T (.rangeFunc f ps assign body) e st) Q:=by
 obtain⟨v,s,h1,h2⟩:=h.elim
 rw[run_eq]
 have h1':J9 T (run T) (f.ev e) [.yield st.nx] ⟨(st.nx,.loop .ready e ps assign body)::st.h,st.nx+1⟩=some (v,s):=h1
 simp only[Qe,h1']
 rcases h2 with ⟨h3,h4⟩ | ⟨x,h3,h4⟩
 ·simp only[h3];exact h4
 ·simp only[h3];exact h4
def yEnd (l:Nat) (env:Env) (ps:List Nat) (assign body:Zx) (Q:AV→St→Prop) (x:Ex) (s:St):Prop:=
 Zh s.h l=some (.loop .busy env ps assign body)∧
  match x with
  | .norm=>Q (.bool true) ⟨Qi s.h l (.loop .ready env ps assign body),s.nx⟩
  | x=>Q (.bool false) ⟨Qi s.h l (.loop (.done x) env ps assign body),s.nx⟩
theorem Ob {l:Nat} {args:List AV} {env:Env} {ps:List Nat} {assign body:Zx} {Q:AV→St→Prop} (hg:Zh st.h l=some (.loop .ready env ps assign body)) (hl:args.length=ps.length)
  (h:Res (run T assign (Er env ps args) st) fun x e1 s1=>x= .norm∧Zh s1.h l=some (.loop .ready env ps assign body)∧
    Res (run T body e1 ⟨Qi s1.h l (.loop .busy env ps assign body),s1.nx⟩) fun x _ s2=>yEnd l env ps assign body Q x s2):Jg (call T (.yield l) args st) Q:=by
 obtain⟨x,e1,s1,h1,rfl,h2,h3⟩:=h.elim
 obtain⟨x,e2,s2,h4,h5,h6⟩:=h3.elim
 simp only[call,J9,Cg,hg]
 rw[if_pos hl]
 simp only[h1,h2,h4,h5]
 cases x with
 | norm=>exact h6
 | exit i=>exact h6
 | ret=>exact h6
@[go_sem] theorem Zaax (e:Env) (t:Nat) (v:AV):Er e [t] [v]=(t,v)::e:=rfl
@[go_sem] theorem Zaay (e:Env) (t u:Nat) (v w:AV):Er e [t,u] [v,w]=(u,w)::(t,v)::e:=rfl
theorem S6 {k:Nat} {mf:Z8} (hen:T.en k=none) (hf:T.fn k=some mf) {first args cap:List AV} (hl:(first++args++cap).length=mf.Zex) (hr:mf.results=[]) {Q:St→Prop}
  (h:Res (run T mf.body (Ul 0 (first++args++cap)) st) fun x _ s=>(x= .norm∨x= .ret)∧Q ⟨Zp st.nx s.h,s.nx⟩):Jg (call T (.fn k first cap) args st) fun _ s=>Q s:=
 Q3 hen hf hl (h.mono fun _ _ _ ⟨h1,h2⟩=>⟨h1,.tuple [],by rw[hr];rfl,h2⟩)
end Go.Ev

/- Parts of strings. -/
namespace Go.Ev
open Go
@[go_sem] theorem Zaco (f:Nat) (a b:List AV):Kx (.fn f a b)=[.fn f a b]:=rfl
@[go_sem] theorem Zabi (n:Nat):Kx (.map n)=[.map n]:=rfl
@[go_sem] theorem Zyw:Kx .Wa=[.Wa]:=rfl
@[go_sem] theorem Zyv:Kx .Xk=[.Xk]:=rfl
@[go_sem] theorem Zy7:Kx .Lb=[.Lb]:=rfl
@[go_sem] theorem Zwx:Kx .Y6=[.Y6]:=rfl
@[go_sem] theorem Zafm (f:Nat) (a b:List AV):(AV.fn f a b).sc=true:=rfl
@[go_sem] theorem Zafe (n:Nat):(AV.map n).sc=true:=rfl
@[go_sem] theorem Zac5:AV.Wa.sc=true:=rfl
@[go_sem] theorem Zac4:AV.Xk.sc=true:=rfl
@[go_sem] theorem Zaee:AV.Lb.sc=true:=rfl
@[go_sem] theorem Zabb:AV.Y6.sc=true:=rfl
theorem E7 {s:List UInt8} {j:Int} {k:IntKind} (h0:0≤j) (h1:j≤s.length):Q6 s none (some (.int k j))=some (.str (s.take j.toNat)):=by
 simp only[Q6,Ho,bnd,Hn]
 rw[if_pos ⟨h0,h1⟩]
 simp
theorem Qp {s:List UInt8} {i:Int} {k:IntKind} (h0:0≤i) (h1:i≤s.length):Q6 s (some (.int k i)) none=some (.str (s.drop i.toNat)):=by
 simp only[Q6,Ho,bnd,Hn]
 rw[if_pos ⟨h0,h1⟩]
 simp only[Option.some.injEq,AV.str.injEq]
 rw[List.take_of_length_le (by simp)]
theorem J6 {s:List UInt8} {i j:Int} {k k':IntKind} (h0:0≤i) (h1:i≤j) (h2:j≤s.length):Q6 s (some (.int k i)) (some (.int k' j))=some (.str ((s.drop i.toNat).take (j.toNat - i.toNat))):=by
 simp only[Q6,Ho,bnd,Hn]
 rw[if_pos ⟨by omega,h2⟩]
 simp only
 rw[if_pos ⟨h0,by omega⟩]
theorem Frm.get' {S:List Nat} {st st':St} (a:Frm S st st') {n:Nat} {o:Z7} (hl:n<st.nx) (h:Zh st.h n=some o) (hn:n∉S):Zh st'.h n=some o:=by
 rw[a.Zi n hl hn,h]
theorem Zl {h:Heap} {n m:Nat} {o p:Z7} (hg:Zh h n=some p) (hne:n≠m):Zh (Qi h n o) m=Zh h m:=by
 rw[Mk hg,if_neg hne]
theorem Zc {h:Heap} {n:Nat} {o p:Z7} (hg:Zh h n=some p):Zh (Qi h n o) n=some o:=by
 rw[Mk hg,if_pos rfl]
theorem Ext.Yo {S:List Nat} {st s s':St} (a:Ext st s) (b:Frm S s s') (h:∀n∈S,st.nx≤n):Ext st s':=
 ⟨Nat.le_trans a.nx b.nx,b.wf,fun n hn=>by
   rw[b.Zi n (Nat.lt_of_lt_of_le hn a.nx) (fun hs=>by have:=h n hs;omega),a.Zi n hn]⟩
theorem Zz6 {T:Tab} {d:Option Nat} {e:Env} {l:List MI} {K:Env→St→Prop} {v:AV} {s:St} (P:Env→St→Prop) (h:Zzr d e (Zzp (call T) l P) v s) (hk:∀e s,P e s→K e s):Zzr d e (Zzp (call T) l K) v s:=by
 simp only[Zzs,Zzq]at h⊢
 obtain⟨e1,s1,h1,h2⟩:=h.elim
 rw[h1]
 exact hk _ _ h2
theorem Zx7 {T:Tab} {nm:Nat} {d:Option Nat} {e:Env} {dn:List (Nat×MI)} {l:List RI} {K:Env→St→Prop} {v:AV} {s:St} (P:Env→St→Prop) (h:Zuf nm d e (kR (call T) dn l P) v s) (hk:∀e s,P e s→K e s):Zuf nm d e (kR (call T) dn l K) v s:=by
 simp only[Zxp,Zad0]at h⊢
 obtain⟨e1,s1,h1,h2⟩:=h.elim
 rw[h1]
 exact hk _ _ h2
theorem Fs {T:Tab} {A C:Zx} {e:Env} {st:St} {Q:Ex→Env→St→Prop} (P:Ex→Env→St→Prop) (hA:∀l,A≠.Zi l) (h1:Res (run T A e st) P) (h2:∀x e s,P x e s→Zvp T C Q x e s):Res (run T (.seq A C) e st) Q:=by
 rw[Lf hA,Zw4]
 exact h1.mono h2
theorem Q8 {h:Heap} {n ty:Nat} {l:Bool} {v:AV} (hg:Zh h n=some (.cells ty l [v])):Zo h n 0=some v:=by simp[Zo,hg]
theorem Xo {h:Heap} {n ty:Nat} {l:Bool} {u v:AV} (hg:Zh h n=some (.cells ty l [u])) (hs:v.sc=true):Z5 h n 0 [v]=some (Qi h n (.cells ty l [v])):=Zdl hg rfl (by simp[hs])
end Go.Ev

/- Digits are counted: lex.count and the reference's count. -/
namespace Go.Ev
open Go
variable {T : Tab} {st : St}
def Xi (c:UInt8):Nat:=if 48≤c.toNat∧c.toNat≤57 then c.toNat - 48 else if 97≤c.toNat∧c.toNat≤122 then c.toNat - 87 else if 65≤c.toNat∧c.toNat≤90 then c.toNat - 55 else 99
theorem Zt7 (c:UInt8):Xi c≤99:=by unfold Xi;(repeat' split) <;> omega
theorem Zsa (H:B.Sq T) (hwf:st.Wf) (c:UInt8):Qa T st (.fn 122 [] []) [.int .u8 c.toNat] (.int .i64 (Xi c)):=by
 have h:(List.range 256).all (fun c=>Ze6 T0 40 B.Cy [.int .u8 c] (.int .i64 (Xi (UInt8.ofNat c))))=true:=by kernel_rfl
 have:=V7 h c
 simp only[UInt8.ofNat_toNat]at this
 exact Gz Zao H.e H.f hwf rfl this
def Zva (c:UInt8):Nat:=if Xi c=99 then 36 else Xi c
theorem A0 (H:B.Lp T) (hwf:st.Wf) (c:UInt8):Qa T st (.fn 101 [] []) [.int .u8 c.toNat] (.int .i64 (Zva c)):=by
 have h:(List.range 256).all (fun c=>Ze6 T0 40 B.Uw [.int .u8 c] (.int .i64 (Zva (UInt8.ofNat c))))=true:=by kernel_rfl
 have:=V7 h c
 simp only[UInt8.ofNat_toNat]at this
 exact Gz Zao H.e H.f hwf rfl this
def Zns (base:Int) (c:UInt8):Int:=if(Xi c:Int)≥base then -1 else Xi c
theorem Znt (H:B.C5 T) {Y:AV} {a b ty tb:Nat} {la lb:Bool} {s:List UInt8} {base:Int} (hs:s.length<9223372036854775807) (P:Nat→St→Prop) (R:St→Prop)
  (hwf:∀i s1,P i s1→s1.Wf) (ha:∀i s1,P i s1→Zh s1.h a=some (.cells ty la [.str s])) (hb:∀i s1,P i s1→Zh s1.h b=some (.cells tb lb [.int .i64 base]))
  (hext:∀i s1 s2,P i s1→Ext s1 s2→P i s2)
  (hY:∀i s1 c,P i s1→s[i]? =some c→Jg (call T Y [.int .i64 (Zns base c)] s1) fun v s2=>(v= .bool true∧P (i+1) s2)∨(v= .bool false∧R s2)):
  ∀(m i:Nat) (e:Env) (st1:St),i+m=s.length→P i st1→Zb e 0=Y→Zb e 1= .ptr a 0→Zb e 2= .ptr b 0→Zb e 7= .int .i64 s.length→Zb e 8= .int .i64 i→
  Res (run T (.loop B.Gg) e st1) fun x e' s'=>(x= .exit 0∧P s.length s')∨(x= .ret∧R s'):=by
 intro m
 induction m with
 | zero=>
   intro i e st1 hi hP g0 g1 g2 g7 g8
   have hil:i=s.length:=by omega
   subst hil
   rw[Zn]
   simp[B.Gg,go_sem,g0,g1,g2,g7,g8,hP]
 | succ m ih=>
   intro i e st1 hi hP g0 g1 g2 g7 g8
   have hil:i<s.length:=by omega
   have hil':(i:Int)<s.length:=by omega
   obtain⟨c,hc,hd⟩:=Z9 hil
   have ra:=Q8 (ha _ _ hP)
   rw[Zn]
   simp[B.Gg,go_sem,g0,g1,g2,g7,g8,hil',RO.run,ra,hc]
   refine(Zsa H.Cy (hwf _ _ hP) c).use fun s1 hs1=> ?_
   have hP1:=hext _ _ _ hP hs1
   have rb:=Q8 (hb _ _ hP1)
   have hy:=hY i s1 c hP1 hc
   by_cases hq:base≤(Xi c:Int)
   ·have hdy:Zns base c= -1:=by simp[Zns,hq]
    rw[hdy]at hy
    simp[go_sem,RO.run,rb,hq]
    refine hy.mono ?_
    rintro v s2 (⟨rfl,hP2⟩ | ⟨rfl,hR⟩)
    ·simp[go_sem]
     refine ih (i+1) _ s2 (by omega) hP2 ?_ ?_ ?_ ?_ ?_
     ·simp[go_sem]
     ·simp[go_sem]
     ·simp[go_sem]
     ·simp[go_sem]
     ·simp[go_sem];rw[Zf (by omega) (by omega)]
    ·simp[go_sem,hR]
   ·have hdy:Zns base c=Xi c:=by simp[Zns,hq]
    rw[hdy]at hy
    simp[go_sem,RO.run,rb,hq]
    refine hy.mono ?_
    rintro v s2 (⟨rfl,hP2⟩ | ⟨rfl,hR⟩)
    ·simp[go_sem]
     refine ih (i+1) _ s2 (by omega) hP2 ?_ ?_ ?_ ?_ ?_
     ·simp[go_sem]
     ·simp[go_sem]
     ·simp[go_sem]
     ·simp[go_sem]
     ·simp[go_sem];rw[Zf (by omega) (by omega)]
    ·simp[go_sem,hR]
def Jn (cap:Nat) (base:Int):Nat→List UInt8→Option Nat
 | n,[]=>some n
 | n,c::r=>if(Xi c:Int)≥base then none else Jn cap base (min (n*base.toNat+Xi c) cap) r
def J5 (base:Int) (s:List UInt8):Nat×Bool:=
 match Jn 1099511627776 base 0 s with
 | some n=>(n,!decide (s=[]))
 | none=>(0,false)
theorem Zpq (H:B.I7 T) (hwf:st.Wf) {s:List UInt8} {base:Int} {Q:AV→St→Prop}
  (h:Q (.fn 119 [] [.ptr st.nx 0,.ptr (st.nx+1) 0]) ⟨(st.nx+1,.cells 3 false [.int .i64 base])::(st.nx,.cells 9 false [.str s])::st.h,st.nx+2⟩):
  Jg (call T (.fn 112 [] []) [.str s,.int .i64 base] st) Q:=by
 refine Q3 H.e H.f rfl ?_
 have hd:Zp st.nx ((st.nx+1,Z7.cells 3 false [.int .i64 base])::(st.nx,.cells 9 false [.str s])::st.h)=(st.nx+1,Z7.cells 3 false [.int .i64 base])::(st.nx,.cells 9 false [.str s])::st.h:=by
  have:Kk st.nx ((st.nx+1,Z7.cells 3 false [.int .i64 base])::(st.nx,.cells 9 false [.str s])::st.h)=[]:=by
   simp only[Kk]
   exact Uo fun n o ho=>hwf.lt n o ho
  rw[Xj,this,Ed]
 simp[B.L6,go_sem,NO.run,AV.nb,hd]
 exact h
theorem Zxk {S:List Nat} {st s:St} {c:Nat} (h:Frm S st s) (hc:st.nx≤c):Frm S st ⟨Zp c s.h,s.nx⟩:=
 ⟨h.nx,h.wf.Zp _,fun n hn hs=>by rw[Z2 (by omega),h.Zi n hn hs]⟩
theorem Tc (H:B.Fb T) (hwf:st.Wf) {s:List UInt8} (hs:s.length<9223372036854775807) {base:Int} (h0:0≤base) (h1:base≤1000000):
  Qa T st (.fn 95 [] []) [.str s,.int .i64 base] (.tuple [.int .i64 (J5 base s).1,.bool (J5 base s).2]):=by
 refine Zs H.e H.f rfl ?_
 have x1:=Ext.new hwf (.cells 3 true [.int .i64 base])
 have x2:=x1.trans (Ext.new x1.wf (.cells 3 true [.int .i64 0]))
 have x3:=x2.trans (Ext.new x2.wf (.cells 4 true [.bool false]))
 have x4:=x3.trans (Ext.new x3.wf (.cells 3 true [.int .i64 0]))
 simp only[Nat.add_assoc,Nat.reduceAdd]at x2 x3 x4
 simp[B.N9,go_sem,NO.run,AV.nb,WO.run,Z5,Ze,Jv,K0,RO.run,Zo,Nat.add_assoc]
 refine Zpq H.L6 x4.wf ?_
 simp[go_sem,Nat.add_assoc]
 refine Ez ?_
 simp[go_sem,Nat.add_assoc]
 refine S6 H.L6.W9.e H.L6.W9.f rfl rfl ?_
 have x5:=x4.trans (Ext.new x4.wf (.cells 9 false [.str s]))
 have x6:=x5.trans (Ext.new x5.wf (.cells 3 false [.int .i64 base]))
 simp only[Nat.add_assoc,Nat.reduceAdd]at x5 x6
 generalize hE:([(10,AV.fn 119 [] [.ptr (st.nx+4) 0,.ptr (st.nx+5) 0]),(9,.int .i64 base),(8,.str s),(6,.ptr (st.nx+3) 0),(5,.ptr (st.nx+2) 0),(4,.ptr (st.nx+1) 0),(3,.ptr st.nx 0),(0,.str s),(1,.int .i64 base)]:Env)=E
 have q0:Zb E 0= .str s:=by rw[←hE];simp[go_sem]
 have q3:Zb E 3= .ptr st.nx 0:=by rw[←hE];simp[go_sem]
 have q4:Zb E 4= .ptr (st.nx+1) 0:=by rw[←hE];simp[go_sem]
 have q5:Zb E 5= .ptr (st.nx+2) 0:=by rw[←hE];simp[go_sem]
 have q6:Zb E 6= .ptr (st.nx+3) 0:=by rw[←hE];simp[go_sem]
 clear hE
 have x7:=x6.trans (Ext.new x6.wf (.loop .ready E [11] (.Zd [⟨some 7,none,.p (.Za (.t 11))⟩]) B.Yp))
 simp only[Nat.add_assoc,Nat.reduceAdd]at x7
 generalize hS:(⟨(st.nx+6,Z7.loop .ready E [11] (.Zd [⟨some 7,none,.p (.Za (.t 11))⟩]) B.Yp)::(st.nx+5,.cells 3 false [.int .i64 base])::(st.nx+4,.cells 9 false [.str s])::
  (st.nx+3,.cells 3 true [.int .i64 0])::(st.nx+2,.cells 4 true [.bool false])::(st.nx+1,.cells 3 true [.int .i64 0])::(st.nx,.cells 3 true [.int .i64 base])::st.h,st.nx+7⟩:St)=st7 at x7⊢
 have n7:st7.nx=st.nx+7:=by rw[←hS]
 have gl:Zh st7.h (st.nx+6)=some (.loop .ready E [11] (.Zd [⟨some 7,none,.p (.Za (.t 11))⟩]) B.Yp):=by rw[←hS];simp[Ze]
 have gb:Zh st7.h (st.nx+5)=some (.cells 3 false [.int .i64 base]):=by rw[←hS];simp[Ze]
 have ga:Zh st7.h (st.nx+4)=some (.cells 9 false [.str s]):=by rw[←hS];simp[Ze]
 have gn:Zh st7.h (st.nx+3)=some (.cells 3 true [.int .i64 0]):=by rw[←hS];simp[Ze]
 have g2:Zh st7.h (st.nx+2)=some (.cells 4 true [.bool false]):=by rw[←hS];simp[Ze]
 have g1:Zh st7.h (st.nx+1)=some (.cells 3 true [.int .i64 0]):=by rw[←hS];simp[Ze]
 have g0:Zh st7.h st.nx=some (.cells 3 true [.int .i64 base]):=by rw[←hS];simp[Ze]
 clear hS x1 x2 x3 x4 x5 x6
 have ra:=Q8 ga
 simp[B.W9,go_sem,RO.run,ra]
 refine(Znt H.L6.W9 (Y:= .yield (st.nx+6)) (a:=st.nx+4) (b:=st.nx+5) (ty:=9) (tb:=3) (la:=false) (lb:=false) (s:=s) (base:=base) hs
  (fun i s1=>∃v,Jn 1099511627776 base 0 s=Jn 1099511627776 base v (s.drop i)∧v≤1099511627776∧Frm [st.nx+3,st.nx+6] st7 s1∧
    Zh s1.h (st.nx+6)=some (.loop .ready E [11] (.Zd [⟨some 7,none,.p (.Za (.t 11))⟩]) B.Yp)∧Zh s1.h (st.nx+3)=some (.cells 3 true [.int .i64 v]))
  (fun s1=>Jn 1099511627776 base 0 s=none∧Frm [st.nx+1,st.nx+2,st.nx+3,st.nx+6] st7 s1∧Zh s1.h (st.nx+6)=some (.loop (.done .ret) E [11] (.Zd [⟨some 7,none,.p (.Za (.t 11))⟩]) B.Yp)∧
    Zh s1.h (st.nx+1)=some (.cells 3 true [.int .i64 0])∧Zh s1.h (st.nx+2)=some (.cells 4 true [.bool false]))
  ?_ ?_ ?_ ?_ ?_ s.length 0 _ st7 (by simp) ?_ ?_ ?_ ?_ ?_ ?_).mono ?_
 ·rintro i s1 ⟨v,_,_,hf,_⟩;exact hf.wf
 ·rintro i s1 ⟨v,_,_,hf,_⟩;exact hf.get' (by omega) ga (by simp)
 ·rintro i s1 ⟨v,_,_,hf,_⟩;exact hf.get' (by omega) gb (by simp)
 ·rintro i s1 s2 ⟨v,h1,h2,hf,h3,h4⟩ hx
  exact⟨v,h1,h2,hf.trans (hx.fr []) (by simp),hx.get hf.wf h3,hx.get hf.wf h4⟩
 ·rintro i s1 c ⟨v,k1,k2,hf,k3,k4⟩ hc
  have hil:i<s.length:=(List.getElem?_eq_some_iff.1 hc).1
  have hd:s.drop i=c::s.drop (i+1):=by
   rw[List.drop_eq_getElem_cons hil,(List.getElem?_eq_some_iff.1 hc).2]
  have hnx:=hf.nx
  have hwl:=Frm.set hf.wf k3 (o:= .loop .busy E [11] (.Zd [⟨some 7,none,.p (.Za (.t 11))⟩]) B.Yp)
  have fb:=hf.trans hwl (by simp)
  refine Ob k3 rfl ?_
  simp[go_sem,k3]
  generalize hB:(⟨Qi s1.h (st.nx+6) (Z7.loop .busy E [11] (.Zd [⟨some 7,none,.p (.Za (.t 11))⟩]) B.Yp),s1.nx⟩:St)=s2 at fb⊢
  have nb:s2.nx=s1.nx:=by rw[←hB]
  have bl:Zh s2.h (st.nx+6)=some (.loop .busy E [11] (.Zd [⟨some 7,none,.p (.Za (.t 11))⟩]) B.Yp):=by rw[←hB];exact Zc k3
  have bn:Zh s2.h (st.nx+3)=some (.cells 3 true [.int .i64 v]):=by rw[←hB];exact(Zl k3 (by omega)).trans k4
  have bb:=fb.get' (by omega) gb (by simp)
  have b1:=fb.get' (by omega) g1 (by simp)
  have b2:=fb.get' (by omega) g2 (by simp)
  have b0:=fb.get' (by omega) g0 (by simp)
  clear hB
  by_cases hq:base≤(Xi c:Int)
  ·have hdy:Zns base c= -1:=by simp[Zns,hq]
   have w1:=Xo b1 (v:= .int .i64 0) rfl
   have f1:=Frm.set fb.wf b1 (o:= .cells 3 true [.int .i64 0])
   have b2':=(Zl (m:=st.nx+2) b1 (o:= .cells 3 true [.int .i64 0]) (by omega)).trans b2
   have w2:=Xo b2' (v:= .bool false) rfl
   have f2:=Frm.set (st:=⟨_,_⟩) f1.wf b2' (o:= .cells 4 true [.bool false])
   have b6':=(Zl (m:=st.nx+6) b2' (o:= .cells 4 true [.bool false]) (by omega)).trans ((Zl (m:=st.nx+6) b1 (o:= .cells 3 true [.int .i64 0]) (by omega)).trans bl)
   simp[B.Yp,go_sem,hdy,q0,q3,q4,q5,q6,WO.run,w1,w2,yEnd]
   refine⟨b6',by rw[k1,hd];simp[Jn,hq],?_,Zc b6',?_,?_⟩
   ·exact(((fb.mono (R:=[st.nx+1,st.nx+2,st.nx+3,st.nx+6]) (by simp)).trans f1 (by simp)).trans f2 (by simp)).trans (Frm.set (st:=⟨_,_⟩) f2.wf b6') (by simp)
   ·rw[Zl b6' (by omega),Zl b2' (by omega),Zc b1]
   ·rw[Zl b6' (by omega),Zc b2']
  ·have hdy:Zns base c=Xi c:=by simp[Zns,hq]
   have hnn:¬(Xi c:Int)<0:=by omega
   have hle:=Zt7 c
   have hm:(v:Int)*base≤1099511627776*1000000:=Int.mul_le_mul (by omega) h1 h0 (by omega)
   have hm0:0≤(v:Int)*base:=Int.mul_nonneg (by omega) h0
   have e1:IntKind.i64.wrap ((v:Int)*base)=v*base:=Zf (by omega) (by omega)
   have e2:IntKind.i64.wrap ((v:Int)*base+Xi c)=v*base+Xi c:=Zf (by omega) (by omega)
   have e3:(if(1099511627776:Int)<v*base+Xi c then 1099511627776 else v*base+Xi c)=((min (v*base.toNat+Xi c) 1099511627776:Nat):Int):=by
    have:((v*base.toNat:Nat):Int)=v*base:=by rw[Int.natCast_mul,Int.toNat_of_nonneg h0]
    split <;> omega
   have w1:=Xo bn (v:= .int .i64 ((min (v*base.toNat+Xi c) 1099511627776:Nat):Int)) rfl
   have f1:=Frm.set fb.wf bn (o:= .cells 3 true [.int .i64 ((min (v*base.toNat+Xi c) 1099511627776:Nat):Int)])
   have b6':=(Zl (m:=st.nx+6) bn (o:= .cells 3 true [.int .i64 ((min (v*base.toNat+Xi c) 1099511627776:Nat):Int)]) (by omega)).trans bl
   simp[B.Yp,go_sem,hdy,q0,q3,q4,q5,q6,RO.run,WO.run,Q8 bn,Q8 b0,hnn,e1,e2]
   rw[e3,w1]
   simp[go_sem,yEnd]
   refine⟨b6',min (v*base.toNat+Xi c) 1099511627776,by rw[k1,hd];simp[Jn,hq],by omega,?_,Zc b6',?_⟩
   ·exact(fb.trans f1 (by simp)).trans (Frm.set (st:=⟨_,_⟩) f1.wf b6') (by simp)
   ·rw[Zl b6' (by omega),Zc bn]
 ·exact⟨0,by simp,by omega,.refl x7.wf _,gl,gn⟩
 ·simp[go_sem]
 ·simp[go_sem]
 ·simp[go_sem]
 ·simp[go_sem]
 ·simp[go_sem]
 ·have hnl:(Ext.refl x7.wf).nx=(Ext.refl x7.wf).nx:=rfl
  have hlast:∀(s2:St) (o:Z7) (S:List Nat),Frm S st7 s2→Zh s2.h (st.nx+6)=some o→Zh (Zp st7.nx s2.h) (st.nx+6)=some o∧Frm ((st.nx+6)::S) st7 ⟨Yk (Zp st7.nx s2.h) (st.nx+6),s2.nx⟩:=fun s2 o S hf hg=>by
   have f1:=Zxk hf (Nat.le_refl _)
   refine⟨by rw[Z2 (by omega)];exact hg,?_⟩
   exact(f1.mono (R:=(st.nx+6)::S) (fun n hn=>List.mem_cons_of_mem _ hn)).trans (Frm.Yk (st:=⟨_,_⟩) f1.wf (st.nx+6)) (by simp)
  rintro x e s2 (⟨rfl,v,k1,k2,hf,k3,k4⟩ | ⟨rfl,k1,hf,k3,k4,k5⟩)
  ·obtain⟨m1,m2⟩:=hlast s2 _ _ hf k3
   have m4:Zh (Yk (Zp st7.nx s2.h) (st.nx+6)) (st.nx+3)=some (.cells 3 true [.int .i64 v]):=by
    rw[Yw,if_neg (by omega),Z2 (by omega)];exact k4
   have m5:=m2.get' (by omega) g1 (by simp)
   have m6:=m2.get' (by omega) g2 (by simp)
   have w1:=Xo m5 (v:= .int .i64 v) rfl
   have f1:=Frm.set (st:=⟨_,_⟩) m2.wf m5 (o:= .cells 3 true [.int .i64 v])
   have m6':=(Zl (m:=st.nx+2) m5 (o:= .cells 3 true [.int .i64 v]) (by omega)).trans m6
   have w2:=Xo m6' (v:= .bool !decide (s=[])) rfl
   have f2:=Frm.set (st:=⟨_,_⟩) f1.wf m6' (o:= .cells 4 true [.bool !decide (s=[])])
   have m7:=Zc m6' (o:= .cells 4 true [.bool !decide (s=[])])
   have m8:=(Zl (m:=st.nx+1) m6' (o:= .cells 4 true [.bool !decide (s=[])]) (by omega)).trans (Zc m5 (o:= .cells 3 true [.int .i64 v]))
   have hc:J5 base s=(v,!decide (s=[])):=by
    simp only[J5,k1]
    simp[Jn]
   have hq:H8 s []=decide (s=[]):=by cases s <;> rfl
   simp[go_sem,m1,Q8 m4,WO.run,w1,w2,Zg,Zm,Zr,RO.run,Q8 m7,Q8 m8,hc,hq,q0,q4,q5,q6]
   exact x7.Yo (((m2.mono (R:=[st.nx+1,st.nx+2,st.nx+3,st.nx+6]) (by simp)).trans f1 (by simp)).trans f2 (by simp)) (by simp)
  ·obtain⟨m1,m2⟩:=hlast s2 _ _ hf k3
   have m4:Zh (Yk (Zp st7.nx s2.h) (st.nx+6)) (st.nx+1)=some (.cells 3 true [.int .i64 0]):=by
    rw[Yw,if_neg (by omega),Z2 (by omega)];exact k4
   have m5:Zh (Yk (Zp st7.nx s2.h) (st.nx+6)) (st.nx+2)=some (.cells 4 true [.bool false]):=by
    rw[Yw,if_neg (by omega),Z2 (by omega)];exact k5
   have hc:J5 base s=(0,false):=by simp only[J5,k1]
   simp[go_sem,m1,Zg,Zm,Zr,RO.run,Q8 m4,Q8 m5,q4,q5,hc]
   exact x7.Yo m2 (by simp)
end Go.Ev
