/- The evaluator's code does what the model's machine does. -/
import Derived.Test.YtdlhjfmakdbmkaaGreatDoorP02
import Derived.Orders
import Derived.Below
set_option linter.unusedSimpArgs false
set_option linter.unusedVariables false
set_option linter.unusedSectionVars false
namespace Go.Ev
open Go
variable {X : Cx} {N N' N'' : Nu} {D : Mc}
section
variable {P : Program} {b : Frame} {t : Array Value} {d : List Deferred} {k : List Item} {cs : List Frame} {w : World}
def Cg (w:World) (fn:FuncId) (t:Array Value) (ps:Array Tmp) (as bd:Code):World:=
 {w with heap:=(w.heap.push (.deferred (some []))).push (.loop {state:= .ready,pending:=none,fn,tmps:=t,params:=ps,assign:=as,body:=bd,defers:=w.heap.size})}
theorem Zaei (f:Operand) (l:Nat) (b:Frame) (t:Array Value) (d:List Deferred) (todo:List Item):
  (do let dd←resolve (Fr b t d todo).eval {callee:= .value f,args:= #[.const (.func (.yield l) #[] #[])],argTypes:= #[]} 0;invoke dd.target dd.args:Sem Next)=Dx (evT t f) #[.func (.yield l) #[] #[]]:=by
 rw[Zne]
 simp[resolve,Dx,evT]
theorem Zy1 {ps:Array Tmp} {as bd:Code}:
  (Instr.enterLoop b.fn t ps as bd none).run P w= .ok (w.heap.size+1,[{target:= .collected w.heap.size,args:= #[]}]) (Cg w b.fn t ps as bd):=by
 simp[Instr.enterLoop,Cg]
 rfl
theorem Zlo {f:Operand} {ps:Array Tmp} {as bd:Code} (hb:b.roundOf=none):
  (stepG P true {frame:=Fr b t d (.code (.rangeFunc f ps as bd)::k),callers:=cs,status:= .running,dying:=none} w).bare=
    (stepG.apply P true (Fr b t ({target:= .collected w.heap.size,args:= #[]}::d) (.inRangeFunc (w.heap.size+1)::k)) cs none
      (Dx (evT t f) #[.func (.yield (w.heap.size+1)) #[] #[]]) (Cg w b.fn t ps as bd)).bare:=by
 have hs:=Zaei f (w.heap.size+1) b t ({target:= .collected w.heap.size,args:= #[]}::d) (.inRangeFunc (w.heap.size+1)::k)
 have he:=Zy1 (P:=P) (b:=b) (t:=t) (w:=w) (ps:=ps) (as:=as) (bd:=bd)
 simp only[Fr,hb]at hs
 simp only[stepG,stepG.exec,Fr,hb,Sem.runT_eq,he,GStep.bare_after,List.singleton_append,hs]
theorem Zn4 {f:Operand} {ps:Array Tmp} {as bd:Code} (hb:b.roundOf=none) {u:Value} {w':World}
  (hc:Oj P (Dx (evT t f) #[.func (.yield (w.heap.size+1)) #[] #[]]) (Cg w b.fn t ps as bd) (Fr b t ({target:= .collected w.heap.size,args:= #[]}::d) (.inRangeFunc (w.heap.size+1)::k)) cs u w'):
  Steps P (lone (Fr b t d (.code (.rangeFunc f ps as bd)::k)) cs w) (lone (Fr b t ({target:= .collected w.heap.size,args:= #[]}::d) (.endRangeFunc (w.heap.size+1)::k)) cs w'):=by
 obtain⟨nx,w1,hrun,h⟩:=hc
 have hg:=Zlo (P:=P) (d:=d) (k:=k) (cs:=cs) (w:=w) (f:=f) (ps:=ps) (as:=as) (bd:=bd) (t:=t) hb
 have hfin:(Fr b t ({target:= .collected w.heap.size,args:= #[]}::d) (.inRangeFunc (w.heap.size+1)::k)).finish u=Fr b t ({target:= .collected w.heap.size,args:= #[]}::d) (.endRangeFunc (w.heap.size+1)::k):=rfl
 rcases h with ⟨hu,rfl⟩ | ⟨g,us,rfl,hst⟩ | ⟨l,g,us,a,e,rfl,hst⟩
 ·refine .one (step_lone_go ?_)
  rw[hg,←hfin]
  cases nx <;> simp only[Zro]at hu <;> first | (cases hu;done) | skip
  ·cases hu;simp[stepG.apply,hrun]
  ·cases hu;simp[stepG.apply,hrun]
 ·rw[←hfin]
  refine .head (step_lone_go ?_) hst
  rw[hg]
  simp[stepG.apply,hrun,Fr]
 ·rw[←hfin]
  refine .head (step_lone_go ?_) hst
  rw[hg]
  simp[stepG.apply,hrun,Fr]
theorem Zhp {l:Nat} {r:Loop} (hl:w.heap[l]? =some (.loop r)) (hr:r.state≠.busy):
  step P (lone (Fr b t d (.endRangeFunc l::k)) cs w)= .next (lone (Fr b t d ((r.pending.map Item.code).toList++k)) cs {w with heap:=w.heap.setIfInBounds l (.loop {r with state:= .exhausted})}):=by
 refine step_lone_go ?_
 have he:(Instr.endLoop l).run P w= .ok r.pending {w with heap:=w.heap.setIfInBounds l (.loop {r with state:= .exhausted})}:=by
  simp[Instr.endLoop,Instr.getLoop,getObj,setObj,Sem.run,hl,hr]
 simp[stepG,stepG.exec,Fr,he]
end
def Zso (D:Mc) (X:Cx):Prop:=
 ∀call,Oi D X call→∀S ops is e st e' st',G2 call [] st.nx is e ⟨st.h,st.nx+is.length⟩=some (e',st')→D X S is ops=true→
  ∀N b t d k cs w tt,Kr X N e t→S≤t.size→SR D X N st w→
   ∃N' t' w',Kr X N' e' t'∧t'.size=t.size∧SR D X N' st' w'∧Gd N st.h w N' st'.h w'∧st.nx≤st'.nx∧(∀n,n<st.nx→N'.ρ n=N.ρ n)∧
    Steps X.P (lone (Fr b t d (.inRegion ops (Region.schedule (X.P.follows .mixedOrders) ops tt)::k)) cs w) (lone (Fr b t' d (.inRegion ops []::k)) cs w')
theorem Zy2 {S:Nat} {e:Env} {st:St} {t:Array Value} {w:World} {ps:Array Nat} {as bd:Zv} {asC bdC:Code} {fn:FuncId} (hr:SR D X N st w) (he:Kr X N e t) (hs:S≤t.size)
  (hps:∀p∈ps.toList,p<S) (h1:V2 as=true) (h2:V2 bd=true) (h3:Dd D X S as asC=true) (h4:Dd D X S bd bdC=true):
  ∃N',SR D X N' ⟨(st.nx,.loop .ready e ps.toList as bd)::st.h,st.nx+1⟩ (Cg w fn t ps asC bdC)∧Gd N st.h w N' ((st.nx,.loop .ready e ps.toList as bd)::st.h) (Cg w fn t ps asC bdC)∧
   N'.ρ st.nx=some ⟨w.heap.size+1,0,none⟩∧∀n,n<st.nx→N'.ρ n=N.ρ n:=by
 have hn:=hr.fresh st.nx (Nat.le_refl _)
 let w1:World:={w with heap:=w.heap.push (.deferred (some []))}
 have hr1:HR D X N st.h w1:=⟨fun n o ho=>(hr.hr.Um n o ho).Zd (.refl N) (by simp[w1]) (fun a ha=>Gv w _ ((hr.hr.Um n o ho).lt ha)),hr.hr.sep⟩
 have g1:Gd N st.h w N st.h w1:=⟨.refl N,by simp[w1],rfl,rfl,rfl,fun b hb _=>Gv w _ hb,fun n o a h1 h2=> .inl ⟨n,o,a,h1,h2,rfl,id⟩⟩
 have hsz:w1.heap.size=w.heap.size+1:=by simp[w1]
 obtain⟨a1,a2⟩:=hr1.new (n:=st.nx) (k:=0) (obj:= .loop {state:= .ready,pending:=none,fn,tmps:=t,params:=ps,assign:=asC,body:=bdC,defers:=w.heap.size})
  (o:= .loop .ready e ps.toList as bd) hn
  ⟨w1.heap.size,_,S,by simp[Nu.add],by simp;rfl,⟨rfl,rfl⟩,he.mono (Nu.Zcx hn),rfl,hs,hps,h1,h2,h3,h4⟩
 rw[hsz]at a1 a2
 refine⟨_,⟨a1,fun n hn'=> ?_⟩,g1.trans a2,by simp[Nu.add],fun n hlt=>by simp[Nu.add,Nat.ne_of_lt hlt]⟩
 have:n≠st.nx:=by simp only at hn';omega
 simp only[Nu.add,if_neg this]
 exact hr.fresh n (by simp only at hn';omega)
theorem Zvu {ex:ExF} {T:Tab} (hx:Ok D X ex) (hT:Zdd D X T) (hD:Zso D X):Ok D X (Zz T ex):=by
 intro c code S e st x e' st' hv hc N b t d k cs w B he hs hr hd hB hrf
 have hcall:=Znz hx hT
 unfold Dd at hc
 split at hc <;> (first | (cases hc;done) | skip) <;> (try simp only[bool_and,beq_iff_eq,List.all_eq_true,decide_eq_true_eq]at hc)
 ·
  simp only[Zz]at hv
  obtain⟨N',t',d',w',a1,a2,a3,a4,a5,a6,a7,a8,a9⟩:=hx _ _ S _ _ _ _ _ hv hc N b t d k cs w B (he.Zd _) hs hr hd hB (hrf.imp id (fun h=>by simpa [V2] using h))
  exact⟨N',t',d',w',a1,a2,a3,a4,a5,a6,a7,fun h=>a8 (by simpa [V2] using h),a9⟩
 ·
  simp only[Zz]at hv
  cases hv
  exact⟨N,t,d,w,he,rfl,hr,.refl _ _ _,Nat.le_refl _,fun _ _=>rfl,hd,fun _=>rfl,fun M hM=> .one (hM.trans Zuw)⟩
 ·simp only[Zz]at hv
  cases hv
  exact⟨N,t,d,w,he,rfl,hr,.refl _ _ _,Nat.le_refl _,fun _ _=>rfl,hd,fun _=>rfl,fun M hM=> .one (hM.trans Zx3)⟩
 ·
  rename_i is i os
  simp only[Zz]at hv
  split at hv
  ·rename_i e1 st1 hops
   cases hv
   obtain⟨N',t',w',a1,a2,a3,a4,a5,a6,a7⟩:=Zao hcall b d k cs is 0 os.toList N e e' st st' t w hops hc (by simp) he hs hr
   refine⟨N',t',d,w',a1,a2,a3,a4,a5,a6,hd.Zd hr.hr a4,fun _=>rfl,fun M hM=> ?_⟩
   simp only[Array.length_toList]at a7
   rw[←List.range_eq_range']at a7
   exact .head (hM.trans Ip) (Steps.trans a7 (.one X8))
  ·cases hv
 ·
  rename_i is i os
  simp only[Zz]at hv
  split at hv
  ·rename_i e1 st1 hops
   cases hv
   have hr0:SR D X N st {w with drawn:=w.drawn+1}:=⟨hr.hr.drawn _,hr.fresh⟩
   obtain⟨N',t',w',a1,a2,a3,a4,a5,a6,a7⟩:=hD _ hcall S os is e st e' st' hops hc N b t d k cs {w with drawn:=w.drawn+1} (w.tape w.drawn (.order b.fn i)) he hs hr0
   have g:=(Gd.drawn N st.h w (w.drawn+1)).trans a4
   exact⟨N',t',d,w',a1,a2,a3,g,a5,a6,hd.Zd hr.hr g,fun _=>rfl,fun M hM=> .head (hM.trans Zjc) (Steps.trans a7 (.one X8))⟩
  ·cases hv
 ·
  rename_i a b1 c1 d1 hnk
  have hrfa:b.roundOf=none∨V2 a=true:=hrf.imp id (fun h=>by simp only[V2,bool_and]at h;exact h.1)
  have hrfb:b.roundOf=none∨V2 b1=true:=hrf.imp id (fun h=>by simp only[V2,bool_and]at h;exact h.2)
  have hnrf:V2 (.seq a b1)=true→V2 a=true∧V2 b1=true:=fun h=>by simpa [V2] using h
  have hv':(match ex a e st with | some (.norm,e,st)=>ex b1 e st | r=>r)=some (x,e',st'):=by
   unfold Zz at hv
   split at hv <;> first | (exfalso;rename_i heq;cases heq;done) | skip
   ·rename_i heq
    cases heq
    exact(hnk _ rfl).elim
   ·rename_i heq
    cases heq
    exact hv
  have first:∀x1 e1 st1,ex a e st=some (x1,e1,st1)→∃N' t' d' w',Kr X N' e1 t'∧t'.size=t.size∧SR D X N' st1 w'∧Gd N st.h w N' st1.h w'∧st.nx≤st1.nx∧(∀n,n<st.nx→N'.ρ n=N.ρ n)∧Ec B d' w'∧
    (V2 a=true→d'=d)∧∀M,step X.P M=step X.P (lone (Fr b t d (.code (.seq c1 d1)::k)) cs w)→Zng X.P b (.code d1::k) cs M t' d' w' x1:=by
   intro x1 e1 st1 h1
   obtain⟨N',t',d',w',a1,a2,a3,a4,a5,a6,a7,a8,a9⟩:=hx _ _ S _ _ _ _ _ h1 hc.1 N b t d (.code d1::k) cs w B he hs hr hd hB hrfa
   refine⟨N',t',d',w',a1,a2,a3,a4,a5,a6,a7,a8,fun M hM=> ?_⟩
   have a9:=a9 _ rfl
   cases x1 with
   | norm=>exact .head (hM.trans Pb) a9
   | exit i=>obtain⟨k2,M',g1,g2,g3⟩:=a9;exact⟨k2,M',g1,.head (hM.trans Pb) g2,g3⟩
   | ret=>obtain⟨k2,M',g2,g3⟩:=a9;exact⟨k2,M',.head (hM.trans Pb) g2,g3⟩
  split at hv'
  ·rename_i e1 st1 h1
   obtain⟨N1,t1,d1',w1,a1,a2,a3,a4,a5,a6,a7,a8,a9⟩:=first _ _ _ h1
   obtain⟨N2,t2,d2,w2,b1',b2,b3,b4,b5,b6,b7,b8,b9⟩:=hx _ _ S _ _ _ _ _ hv' hc.2 N1 b t1 d1' k cs w1 B a1 (by omega) a3 a7 (Nat.le_trans hB a4.size) hrfb
   refine⟨N2,t2,d2,w2,b1',by omega,b3,a4.trans b4,by omega,fun n hn=>by rw[b6 n (by omega),a6 n hn],b7,fun h=>by rw[b8 (hnrf h).2,a8 (hnrf h).1],fun M hM=> ?_⟩
   have a9:=a9 M hM
   have b9:=b9 _ rfl
   simp only[Zng]at a9
   cases x with
   | norm=>exact Steps.trans a9 b9
   | exit i=>obtain⟨k2,M',g1,g2,g3⟩:=b9;exact⟨k2,M',g1,Steps.trans a9 g2,g3⟩
   | ret=>obtain⟨k2,M',g2,g3⟩:=b9;exact⟨k2,M',Steps.trans a9 g2,g3⟩
  ·rename_i hne
   obtain⟨N1,t1,d1',w1,a1,a2,a3,a4,a5,a6,a7,a8,a9⟩:=first _ _ _ hv'
   refine⟨N1,t1,d1',w1,a1,a2,a3,a4,a5,a6,a7,fun h=>a8 (hnrf h).1,fun M hM=> ?_⟩
   have a9:=a9 M hM
   cases x with
   | norm=>exact(hne _ _ hv').elim
   | exit i=>obtain⟨k2,M',g1,g2,g3⟩:=a9;exact⟨k2,M',by rw[g1];rfl,g2,g3⟩
   | ret=>exact a9
 ·
  rename_i xo a b1 yo c1 d1
  have h1:=Zfh he _ _ hc.1
  simp only[Zz]at hv
  split at hv
  ·rename_i hb
   rw[hb]at h1
   simp only[VR]at h1
   obtain⟨N',t',d',w',a1,a2,a3,a4,a5,a6,a7,a8,a9⟩:=hx _ _ S _ _ _ _ _ hv hc.2.1 N b t d k cs w B he hs hr hd hB (hrf.imp id (fun h=>by simp only[V2,bool_and]at h;exact h.1))
   refine⟨N',t',d',w',a1,a2,a3,a4,a5,a6,a7,fun h=>a8 (by simp only[V2,bool_and]at h;exact h.1),fun M hM=> ?_⟩
   have a9:=a9 _ rfl
   have hst:=Zii (P:=X.P) (b:=b) (d:=d) (k:=k) (cs:=cs) (w:=w) (x:=c1) (y:=d1) h1
   simp only[if_true]at hst
   cases x with
   | norm=>exact Steps.head (hM.trans hst) a9
   | exit i=>obtain⟨k2,M',g1,g2,g3⟩:=a9;exact⟨k2,M',g1,Steps.head (hM.trans hst) g2,g3⟩
   | ret=>obtain⟨k2,M',g2,g3⟩:=a9;exact⟨k2,M',Steps.head (hM.trans hst) g2,g3⟩
  ·rename_i hb
   rw[hb]at h1
   simp only[VR]at h1
   obtain⟨N',t',d',w',a1,a2,a3,a4,a5,a6,a7,a8,a9⟩:=hx _ _ S _ _ _ _ _ hv hc.2.2 N b t d k cs w B he hs hr hd hB (hrf.imp id (fun h=>by simp only[V2,bool_and]at h;exact h.2))
   refine⟨N',t',d',w',a1,a2,a3,a4,a5,a6,a7,fun h=>a8 (by simp only[V2,bool_and]at h;exact h.2),fun M hM=> ?_⟩
   have a9:=a9 _ rfl
   have hst:=Zii (P:=X.P) (b:=b) (d:=d) (k:=k) (cs:=cs) (w:=w) (x:=c1) (y:=d1) h1
   simp only[Bool.false_eq_true,if_false]at hst
   cases x with
   | norm=>exact Steps.head (hM.trans hst) a9
   | exit i=>obtain⟨k2,M',g1,g2,g3⟩:=a9;exact⟨k2,M',g1,Steps.head (hM.trans hst) g2,g3⟩
   | ret=>obtain⟨k2,M',g2,g3⟩:=a9;exact⟨k2,M',Steps.head (hM.trans hst) g2,g3⟩
  ·cases hv
 ·
  rename_i i b1 j c1
  obtain⟨rfl,hc⟩:=hc
  simp only[Zz]at hv
  have main:∀x1 e1 st1,ex b1 e st=some (x1,e1,st1)→∃N' t' d' w',Kr X N' e1 t'∧t'.size=t.size∧SR D X N' st1 w'∧Gd N st.h w N' st1.h w'∧st.nx≤st1.nx∧(∀n,n<st.nx→N'.ρ n=N.ρ n)∧Ec B d' w'∧
    (V2 b1=true→d'=d)∧∀M,step X.P M=step X.P (lone (Fr b t d (.code (.block i c1)::k)) cs w)→Zng X.P b (.inBlock i::k) cs M t' d' w' x1:=by
   intro x1 e1 st1 h1
   obtain⟨N',t',d',w',a1,a2,a3,a4,a5,a6,a7,a8,a9⟩:=hx _ _ S _ _ _ _ _ h1 hc N b t d (.inBlock i::k) cs w B he hs hr hd hB (hrf.imp id (fun h=>by simpa [V2] using h))
   refine⟨N',t',d',w',a1,a2,a3,a4,a5,a6,a7,a8,fun M hM=> ?_⟩
   have a9:=a9 _ rfl
   cases x1 with
   | norm=>exact .head (hM.trans T9) a9
   | exit i=>obtain⟨k2,M',g1,g2,g3⟩:=a9;exact⟨k2,M',g1,.head (hM.trans T9) g2,g3⟩
   | ret=>obtain⟨k2,M',g2,g3⟩:=a9;exact⟨k2,M',.head (hM.trans T9) g2,g3⟩
  have hnrf:V2 (.block i b1)=true→V2 b1=true:=fun h=>by simpa [V2] using h
  split at hv
  ·rename_i id' e1 st1 h1
   obtain⟨N1,t1,d1',w1,a1,a2,a3,a4,a5,a6,a7,a8,a9⟩:=main _ _ _ h1
   split at hv
   ·rename_i hid
    cases hv
    subst hid
    refine⟨N1,t1,d1',w1,a1,a2,a3,a4,a5,a6,a7,fun h=>a8 (hnrf h),fun M hM=> ?_⟩
    obtain⟨k2,M',g1,g2,g3⟩:=a9 M hM
    exact Steps.trans g2 (.one (g3.trans (Zuv (by rw[g1];simp[exitTo]))))
   ·rename_i hid
    cases hv
    refine⟨N1,t1,d1',w1,a1,a2,a3,a4,a5,a6,a7,fun h=>a8 (hnrf h),fun M hM=> ?_⟩
    obtain⟨k2,M',g1,g2,g3⟩:=a9 M hM
    refine⟨k2,M',?_,g2,g3⟩
    rw[g1]
    have:(i == id')=false:=by simp;exact fun h=>hid h.symm
    simp[exitTo,this]
  ·rename_i hne
   obtain⟨N1,t1,d1',w1,a1,a2,a3,a4,a5,a6,a7,a8,a9⟩:=main _ _ _ hv
   refine⟨N1,t1,d1',w1,a1,a2,a3,a4,a5,a6,a7,fun h=>a8 (hnrf h),fun M hM=> ?_⟩
   have a9:=a9 M hM
   cases x with
   | norm=>exact Steps.trans a9 (.one Zjb)
   | exit id'=>exact(hne _ _ _ hv).elim
   | ret=>exact a9
 ·
  rename_i b1 c1
  simp only[Zz]at hv
  have hrf1:b.roundOf=none∨V2 b1=true:=hrf.imp id (fun h=>by simpa [V2] using h)
  have hnrf:V2 (.loop b1)=true→V2 b1=true:=fun h=>by simpa [V2] using h
  have main:∀x1 e1 st1,ex b1 e st=some (x1,e1,st1)→∃N' t' d' w',Kr X N' e1 t'∧t'.size=t.size∧SR D X N' st1 w'∧Gd N st.h w N' st1.h w'∧st.nx≤st1.nx∧(∀n,n<st.nx→N'.ρ n=N.ρ n)∧Ec B d' w'∧
    (V2 b1=true→d'=d)∧∀M,step X.P M=step X.P (lone (Fr b t d (.code (.loop c1)::k)) cs w)→Zng X.P b (.inLoop c1::k) cs M t' d' w' x1:=by
   intro x1 e1 st1 h1
   obtain⟨N',t',d',w',a1,a2,a3,a4,a5,a6,a7,a8,a9⟩:=hx _ _ S _ _ _ _ _ h1 hc N b t d (.inLoop c1::k) cs w B he hs hr hd hB hrf1
   refine⟨N',t',d',w',a1,a2,a3,a4,a5,a6,a7,a8,fun M hM=> ?_⟩
   have a9:=a9 _ rfl
   cases x1 with
   | norm=>exact .head (hM.trans Pa) a9
   | exit i=>obtain⟨k2,M',g1,g2,g3⟩:=a9;exact⟨k2,M',g1,.head (hM.trans Pa) g2,g3⟩
   | ret=>obtain⟨k2,M',g2,g3⟩:=a9;exact⟨k2,M',.head (hM.trans Pa) g2,g3⟩
  split at hv
  ·rename_i e1 st1 h1
   obtain⟨N1,t1,d1',w1,a1,a2,a3,a4,a5,a6,a7,a8,a9⟩:=main _ _ _ h1
   obtain⟨N2,t2,d2,w2,b1',b2,b3,b4,b5,b6,b7,b8,b9⟩:=hx (.loop b1) (.loop c1) S _ _ _ _ _ hv (by simpa [Dd] using hc) N1 b t1 d1' k cs w1 B a1 (by omega) a3 a7 (Nat.le_trans hB a4.size) hrf
   refine⟨N2,t2,d2,w2,b1',by omega,b3,a4.trans b4,by omega,fun n hn=>by rw[b6 n (by omega),a6 n hn],b7,fun h=>by rw[b8 h,a8 (hnrf h)],fun M hM=> ?_⟩
   have b9:=b9 (lone (Fr b t1 d1' (.inLoop c1::k)) cs w1) (Zms.trans Pa.symm)
   have a9:=a9 M hM
   simp only[Zng]at a9
   cases x with
   | norm=>exact Steps.trans a9 b9
   | exit i=>obtain⟨k2,M',g1,g2,g3⟩:=b9;exact⟨k2,M',g1,Steps.trans a9 g2,g3⟩
   | ret=>obtain⟨k2,M',g2,g3⟩:=b9;exact⟨k2,M',Steps.trans a9 g2,g3⟩
  ·rename_i hne
   obtain⟨N1,t1,d1',w1,a1,a2,a3,a4,a5,a6,a7,a8,a9⟩:=main _ _ _ hv
   refine⟨N1,t1,d1',w1,a1,a2,a3,a4,a5,a6,a7,fun h=>a8 (hnrf h),fun M hM=> ?_⟩
   have a9:=a9 M hM
   cases x with
   | norm=>exact(hne _ _ hv).elim
   | exit i=>obtain⟨k2,M',g1,g2,g3⟩:=a9;exact⟨k2,M',by rw[g1];rfl,g2,g3⟩
   | ret=>exact a9
 ·
  rename_i b1 c1
  simp only[Zz]at hv
  obtain⟨N',t',d',w',a1,a2,a3,a4,a5,a6,a7,a8,a9⟩:=hx _ _ S _ _ _ _ _ hv hc N b t d (.inScope c1::k) cs w B he hs hr hd hB (hrf.imp id (fun h=>by simpa [V2] using h))
  refine⟨N',t',d',w',a1,a2,a3,a4,a5,a6,a7,fun h=>a8 (by simpa [V2] using h),fun M hM=> ?_⟩
  have a9:=a9 _ rfl
  cases x with
  | norm=>exact .head (hM.trans Zjd) (Steps.trans a9 (.one Ztj))
  | exit i=>obtain⟨k2,M',g1,g2,g3⟩:=a9;exact⟨k2,M',by rw[g1];rfl,.head (hM.trans Zjd) g2,g3⟩
  | ret=>obtain⟨k2,M',g2,g3⟩:=a9;exact⟨k2,M',.head (hM.trans Zjd) g2,g3⟩
 ·
  rename_i f ps as bd g qs asC bdC
  obtain⟨hf,rfl,hps,h1,h2,h3,h4⟩:=hc
  have hb:b.roundOf=none:=hrf.elim id (fun h=>by simp[V2]at h)
  simp only[Zz]at hv
  split at hv
  case h_2=>cases hv
  rename_i v1 st1 hcl
  obtain⟨N1,s1,s2,s3,s4⟩:=Zy2 (fn:=b.fn) (ps:=qs) hr he hs hps h1 h2 h3 h4
  have hyl:VR X N1 (.yield st.nx) (.func (.yield (w.heap.size+1)) #[] #[]):=⟨_,s3,rfl⟩
  have hfv:VR X N1 (f.ev e) (evT t g):=Zfh (he.mono s2.le) _ _ hf
  obtain⟨N2,u,w2,c1,c2,c3,c4,c5,c6⟩:=hcall _ _ _ _ _ hcl N1 _ _ _ s1 hfv (VRs.one hyl) (Fr b t ({target:= .collected w.heap.size,args:= #[]}::d) (.inRangeFunc (w.heap.size+1)::k)) cs
  have hρ2:N2.ρ st.nx=some ⟨w.heap.size+1,0,none⟩:=(c3.le _ _ s3).1
  have hgd:Gd N st.h w N2 st1.h w2:=s2.trans c3
  have hsteps:=Zn4 (P:=X.P) (d:=d) (k:=k) (cs:=cs) (t:=t) hb c6
  have hd2:Ec B ({target:= .collected w.heap.size,args:= #[]}::d) w2:=by
   have e1:Ec B ({target:= .collected w.heap.size,args:= #[]}::d) (Cg w b.fn t qs asC bdC):=by
    obtain⟨rs,rfl,hn,hdr⟩:=hd
    refine⟨w.heap.size::rs,rfl,List.nodup_cons.2 ⟨fun hm=> ?_,hn⟩,fun r hr'=> ?_⟩
    ·have:=Ji (hdr _ hm).2
     omega
    ·rcases List.mem_cons.1 hr' with rfl | hm
     ·refine⟨hB,?_⟩
      simp only[Cg]
      rw[Array.getElem?_push,if_neg (by simp),Array.getElem?_push,if_pos rfl]
     ·obtain⟨q1,q2⟩:=hdr _ hm
      have:=Ji q2
      refine⟨q1,?_⟩
      simp only[Cg]
      rw[Array.getElem?_push,if_neg (by simp;omega),Array.getElem?_push,if_neg (by omega)]
      exact q2
   exact e1.Zd s1.hr c3
  have fin:∀(lst:LSt) (env:Env) (ps':List Nat) (as' bd':Zv) (x':Ex),Zh st1.h st.nx=some (.loop lst env ps' as' bd')→(∀s p,Zzs lst s p→s≠.busy∧p=Zjy x')→
    ∃N' t' d' w',Kr X N' e t'∧t'.size=t.size∧SR D X N' ⟨Ub st1.h st.nx,st1.nx⟩ w'∧Gd N st.h w N' (Ub st1.h st.nx) w'∧st.nx≤st1.nx∧(∀n,n<st.nx→N'.ρ n=N.ρ n)∧Ec B d' w'∧
     (V2 (.rangeFunc f qs.toList as bd)=true→d'=d)∧∀M,step X.P M=step X.P (lone (Fr b t d (.code (.rangeFunc g qs asC bdC)::k)) cs w)→Zng X.P b k cs M t' d' w' x':=by
   intro lst env ps' as' bd' x' hg hl
   obtain⟨bk,r,S1,i1,i2,i3,i4⟩:=I7 c2.hr hg
   rw[hρ2]at i1
   cases i1
   obtain⟨l1,l2⟩:=hl _ _ i3
   let w3:World:={w2 with heap:=w2.heap.setIfInBounds (w.heap.size+1) (.loop {r with state:= .exhausted})}
   have hne:∀q,q≠w.heap.size+1→w3.heap[q]? =w2.heap[q]? :=fun q hq=>by
    show (w2.heap.setIfInBounds _ _)[q]? =_
    rw[Array.getElem?_setIfInBounds,if_neg (fun e=>hq e.symm)]
   have hsub:∀m o,Zh (Ub st1.h st.nx) m=some o→Zh st1.h m=some o:=by
    intro m o ho
    rw[Kj]at ho
    split at ho
    ·cases ho
    ·exact ho
   have hr3:HR D X N2 (Ub st1.h st.nx) w3:=by
    refine⟨fun n o ho=> ?_,(c2.hr.weaken hsub).sep⟩
    refine(c2.hr.Um n o (hsub n o ho)).Zd (.refl _) (by simp[w3]) (fun a ha=>hne _ ?_)
    intro e
    have hnn:n≠st.nx:=by
     rintro rfl
     rw[Kj,if_pos rfl]at ho
     cases ho
    exact hnn (c2.hr.sep st.nx n _ _ _ a hg (hsub n o ho) rfl hρ2 ha (by simpa using e.symm)).symm
   have hg3:Gd N st.h w N2 (Ub st1.h st.nx) w3:=
    ⟨hgd.le,by simpa [w3] using hgd.size,hgd.tape,hgd.os,hgd.output,fun q hq hn=>by rw[hne q (by omega)];exact hgd.frame q hq hn,fun n o a h1 h2=>hgd.has n o a (hsub _ _ h1) h2⟩
   refine⟨N2,t,{target:= .collected w.heap.size,args:= #[]}::d,w3,he.mono hgd.le,rfl,⟨hr3,c2.fresh⟩,hg3,by simp only at c4;omega,fun n hn=>by rw[c5 n (by simp only;omega),s4 n hn],?_,fun h=>by simp[V2]at h,fun M hM=> ?_⟩
   ·obtain⟨rs,q1,q2,q3⟩:=hd2
    refine⟨rs,q1,q2,fun r' hr'=>⟨(q3 r' hr').1,?_⟩⟩
    rw[hne r' ?_]
    ·exact(q3 r' hr').2
    ·rintro rfl
     have:=(q3 _ hr').2
     rw[i2]at this
     cases this
   ·have hend:=Zhp (P:=X.P) (b:=b) (t:=t) (d:={target:= .collected w.heap.size,args:= #[]}::d) (k:=k) (cs:=cs) i2 l1
    have hp:(r.pending.map Item.code).toList=((Zjy x').map Item.code).toList:=by rw[l2]
    rw[hp]at hend
    have hall:Steps X.P M (lone (Fr b t ({target:= .collected w.heap.size,args:= #[]}::d) (((Zjy x').map Item.code).toList++k)) cs w3):=by
     have h0:Steps X.P (lone (Fr b t d (.code (.rangeFunc g qs asC bdC)::k)) cs w) (lone (Fr b t ({target:= .collected w.heap.size,args:= #[]}::d) (((Zjy x').map Item.code).toList++k)) cs w3):=Steps.trans hsteps (.one hend)
     obtain⟨n,hn⟩:=h0
     cases n with
     | zero=>
       exfalso
       simp only[runN,Stepped.next.injEq]at hn
       have:=congrArg (fun m:Machine=>(m.gs[0]?).map (fun g=>g.frame.defers.length)) hn
       simp[lone,Fr]at this
     | succ n=>
       refine⟨n+1,?_⟩
       simp only[runN]at hn⊢
       rw[hM]
       exact hn
    cases x' with
    | norm=>exact hall
    | exit i=>exact⟨k,_,rfl,hall,rfl⟩
    | ret=>exact⟨k,_,hall,rfl⟩
  split at hv
  ·rename_i env ps' as' bd' hg
   cases hv
   exact fin _ _ _ _ _ .norm hg (fun s p h=>⟨by rw[h.1];simp,h.2⟩)
  ·rename_i x1 env ps' as' bd' hg
   cases hv
   exact fin _ _ _ _ _ x hg (fun s p h=>⟨by rw[h.1];simp,h.2⟩)
  ·cases hv
 ·
  simp only[Zz]at hv
  cases hv
  subst hc
  exact⟨N,t,d,w,he,rfl,hr,.refl _ _ _,Nat.le_refl _,fun _ _=>rfl,hd,fun _=>rfl,fun M hM=>⟨k,M,rfl,.refl _ _,hM⟩⟩
 ·
  simp only[Zz]at hv
  cases hv
  exact⟨N,t,d,w,he,rfl,hr,.refl _ _ _,Nat.le_refl _,fun _ _=>rfl,hd,fun _=>rfl,fun M hM=>⟨k,M,.refl _ _,hM⟩⟩
 ·
  rename_i pre mo dd nx more pair post ks out next body r1 os out1 r2 os2 c out2 next1 r3 os3 code
  obtain⟨rfl,rfl,rfl,rfl,h1,h2,h3,h4,h5,h6,h7,h8,h9,h10⟩:=hc
  simp only[Zz]at hv
  split at hv
  case h_2=>cases hv
  rename_i e1 st1 hpre
  split at hv
  case h_2=>cases hv
  rename_i n hmo
  split at hv
  case h_2=>cases hv
  rename_i es hmap
  split at hv
  case h_2=>cases hv
  rename_i hro
  cases hv
  obtain⟨N',t',w',a1,a2,a3,a4,a5,a6,a7,a8⟩:=Zrv (b:=b) (k:=k) (cs:=cs) (r1:=r1) (r2:=r2) (r3:=r3) hx hcall h1 h2 h3 h4 (by simpa using h5) (by simpa using h6) h7 h8 h9 h10 hpre hmo hmap hro he hs hr hd hB
  exact⟨N',t',d,w',a1,a2,a3,a4,a5,a6,a7,fun _=>rfl,a8⟩
 ·
  cases hv
theorem Zuu {T:Tab} (hT:Zdd D X T) (hD:Zso D X):∀n,Ok D X (exec T n)
 | 0=>by intro c code S e st x e' st' hv;cases hv
 | n+1=>Zvu (Zuu hT hD n) hT hD
end Go.Ev

/- What an operation looks at; it answers alike where that is alike. -/
namespace Go.Ev
open Go
def PO.aos:PO→List AO
 | .Za x | .un _ x | .conv _ x | .Zi _ x | .field _ _ x | .Zq _ x | .lenOf _ x | .capOf x | .Xd x | .iface _ x | .same x | .Zc2 x | .r2s x=>[x]
 | .pick a b c=>[a,b,c]
 | .bin _ x y | .Nq _ _ x y | .Zu _ x y | .Zhv _ _ _ x y | .J7 x y | .eqA _ _ x y | .eqB _ x y | .eqN _ _ x y=>[x,y]
 | .Pz _ a b=>a++b
 | .build _ ps=>ps.map (·.2.2)
 | .B5 x a b=>x::(a.toList++b.toList)
 | .Zia _ x a b c | .Zmf _ _ x a b c=>x::(a.toList++(b.toList++c.toList))
 | .Bl _ xs=>xs
 | .Zmw _ | .stuck=>[]
def RO.aos:RO→List AO
 | .load _ x | .b2s x | .Ztt x | .toU x | .ofU _ _ x=>[x]
 | .lookup _ _ _ m k=>[m,k]
 | .Sa _ _ _ i=>[i]
def NO.aos:NO→List AO
 | .alloc .. | .mkMap=>[]
 | .box _ _ x | .s2b _ x | .A3 x=>[x]
 | .Qe _ _ _ ps=>ps.map (·.2.2)
 | .Zre _ _ _ _ a b=>[a,b]
def WO.aos:WO→List AO
 | .store _ a x | .append _ _ _ _ a x | .copy _ a x=>[a,x]
 | .Zbp _ a b c=>[a,b,c]
 | .call f xs=>f::xs
 | .Zmh _ p l=>[p,l]
 | .Sf x=>[x]
def MO.aos:MO→List AO
 | .p o=>o.aos
 | .r o=>o.aos
 | .n o=>o.aos
 | .w o=>o.aos
theorem Tn {e1 e2:AO→AV}:∀{ps:List (Nat×Nat×AO)} {cs:List AV},(∀a∈ps.map (·.2.2),e1 a=e2 a)→Dj e1 cs ps=Dj e2 cs ps
 | [],_,_=>rfl
 | (o,s,x)::ps,cs,h=>by
   have hx:e1 x=e2 x:=h x (by simp)
   simp only[Dj,hx]
   split
   ·exact Tn (fun a ha=>h a (by simp only[List.map_cons,List.mem_cons];exact .inr ha))
   ·rfl
theorem R1 {e1 e2:AO→AV} {a:Option AO} (h:∀x∈a.toList,e1 x=e2 x):a.map e1=a.map e2:=by
 cases a with
 | none=>rfl
 | some x=>simp[h x (by simp)]
theorem PO.congr {e1 e2:AO→AV} {o:PO} (h:∀a∈o.aos,e1 a=e2 a):PO.run e1 o=PO.run e2 o:=by
 cases o with
 | Pz f a b=>
   simp only[PO.aos,List.mem_append]at h
   simp only[PO.run]
   rw[List.map_congr_left (fun x hx=>h x (.inl hx)),List.map_congr_left (fun x hx=>h x (.inr hx))]
 | build z ps=>simp only[PO.run];rw[Tn h]
 | Bl m xs=>simp only[PO.run];rw[show List.map e1 xs=List.map e2 xs from List.map_congr_left h]
 | Zmw v=>rfl
 | stuck=>rfl
 | B5 x a b=>
   simp only[PO.aos,List.mem_cons,List.mem_append]at h
   simp only[PO.run,h x (.inl rfl),R1 (fun y hy=>h y (.inr (.inl hy))),R1 (fun y hy=>h y (.inr (.inr hy)))]
 | Zia es x a b c=>
   simp only[PO.aos,List.mem_cons,List.mem_append]at h
   simp only[PO.run,h x (.inl rfl),R1 (fun y hy=>h y (.inr (.inl hy))),R1 (fun y hy=>h y (.inr (.inr (.inl hy)))),R1 (fun y hy=>h y (.inr (.inr (.inr hy))))]
 | Zmf n es x a b c=>
   simp only[PO.aos,List.mem_cons,List.mem_append]at h
   simp only[PO.run,h x (.inl rfl),R1 (fun y hy=>h y (.inr (.inl hy))),R1 (fun y hy=>h y (.inr (.inr (.inl hy)))),R1 (fun y hy=>h y (.inr (.inr (.inr hy))))]
 | pick a b c=>
   simp only[PO.aos,List.mem_cons,List.not_mem_nil,or_false]at h
   simp only[PO.run,h a (.inl rfl),h b (.inr (.inl rfl)),h c (.inr (.inr rfl))]
 | bin op x y=>simp only[PO.aos,List.mem_cons,List.not_mem_nil,or_false]at h;simp only[PO.run,h x (.inl rfl),h y (.inr rfl)]
 | Nq n es x y=>simp only[PO.aos,List.mem_cons,List.not_mem_nil,or_false]at h;simp only[PO.run,h x (.inl rfl),h y (.inr rfl)]
 | Zu es x y=>simp only[PO.aos,List.mem_cons,List.not_mem_nil,or_false]at h;simp only[PO.run,h x (.inl rfl),h y (.inr rfl)]
 | Zhv n es s x y=>simp only[PO.aos,List.mem_cons,List.not_mem_nil,or_false]at h;simp only[PO.run,h x (.inl rfl),h y (.inr rfl)]
 | J7 x y=>simp only[PO.aos,List.mem_cons,List.not_mem_nil,or_false]at h;simp only[PO.run,h x (.inl rfl),h y (.inr rfl)]
 | eqA g ks x y=>simp only[PO.aos,List.mem_cons,List.not_mem_nil,or_false]at h;simp only[PO.run,h x (.inl rfl),h y (.inr rfl)]
 | eqB g x y=>simp only[PO.aos,List.mem_cons,List.not_mem_nil,or_false]at h;simp only[PO.run,h x (.inl rfl),h y (.inr rfl)]
 | eqN g k x y=>simp only[PO.aos,List.mem_cons,List.not_mem_nil,or_false]at h;simp only[PO.run,h x (.inl rfl),h y (.inr rfl)]
 | Za x=>simp only[PO.run,h x (by simp[PO.aos])]
 | un op x=>simp only[PO.run,h x (by simp[PO.aos])]
 | conv k x=>simp only[PO.run,h x (by simp[PO.aos])]
 | Zi o x=>simp only[PO.run,h x (by simp[PO.aos])]
 | field o s x=>simp only[PO.run,h x (by simp[PO.aos])]
 | Zq i x=>simp only[PO.run,h x (by simp[PO.aos])]
 | lenOf s x=>simp only[PO.run,h x (by simp[PO.aos])]
 | capOf x=>simp only[PO.run,h x (by simp[PO.aos])]
 | Xd x=>simp only[PO.run,h x (by simp[PO.aos])]
 | iface t x=>simp only[PO.run,h x (by simp[PO.aos])]
 | same x=>simp only[PO.run,h x (by simp[PO.aos])]
 | Zc2 x=>simp only[PO.run,h x (by simp[PO.aos])]
 | r2s x=>simp only[PO.run,h x (by simp[PO.aos])]
theorem RO.congr {e1 e2:AO→AV} {hp:Heap} {o:RO} (h:∀a∈o.aos,e1 a=e2 a):RO.run e1 hp o=RO.run e2 hp o:=by
 cases o with
 | load s x=>cases s <;> simp only[RO.run,h x (by simp[RO.aos])]
 | b2s x=>simp only[RO.run,h x (by simp[RO.aos])]
 | Ztt x=>simp only[RO.run,h x (by simp[RO.aos])]
 | toU x=>simp only[RO.run,h x (by simp[RO.aos])]
 | ofU t z x=>simp only[RO.run,h x (by simp[RO.aos])]
 | Sa g l s x=>simp only[RO.run,h x (by simp[RO.aos])]
 | lookup kk z ok m k=>simp only[RO.run,h m (by simp[RO.aos]),h k (by simp[RO.aos])]
theorem NO.congr {e1 e2:AO→AV} {n:Nat} {o:NO} (h:∀a∈o.aos,e1 a=e2 a):NO.run e1 n o=NO.run e2 n o:=by
 cases o with
 | alloc t l z=>rfl
 | mkMap=>rfl
 | box t l x=>simp only[NO.run,h x (by simp[NO.aos])]
 | s2b t x=>simp only[NO.run,h x (by simp[NO.aos])]
 | A3 x=>simp only[NO.run,h x (by simp[NO.aos])]
 | Qe t n z ps=>simp only[NO.run];rw[Tn h]
 | Zre t e b z l c=>simp only[NO.run,h l (by simp[NO.aos]),h c (by simp[NO.aos])]
theorem WO.congr {call:Qx} {e1 e2:AO→AV} {st:St} {o:WO} (h:∀a∈o.aos,e1 a=e2 a):WO.run call e1 st o=WO.run call e2 st o:=by
 cases o with
 | store s a x=>simp only[WO.run,h a (by simp[WO.aos]),h x (by simp[WO.aos])]
 | append t e b z a x=>simp only[WO.run,h a (by simp[WO.aos]),h x (by simp[WO.aos])]
 | copy e a x=>simp only[WO.run,h a (by simp[WO.aos]),h x (by simp[WO.aos])]
 | Zbp k a b c=>simp only[WO.run,h a (by simp[WO.aos]),h b (by simp[WO.aos]),h c (by simp[WO.aos])]
 | Sf x=>simp only[WO.run,h x (by simp[WO.aos])]
 | Zmh t p l=>simp only[WO.run,h p (by simp[WO.aos]),h l (by simp[WO.aos])]
 | call f xs=>
   simp only[WO.run,h f (by simp[WO.aos])]
   rw[List.map_congr_left (fun x hx=>h x (by simp[WO.aos,hx]))]
theorem RO.grow {ev:AO→AV} {h h':Heap} (hs:∀n o,Zh h n=some o→Zh h' n=some o) {o:RO} {v:AV} (hv:RO.run ev h o=some v):RO.run ev h' o=some v:=by
 have c1:∀n off v,Q5 h n off=some v→Q5 h' n off=some v:=by
  intro n off v hv
  unfold Q5 at hv⊢
  split at hv <;> first | (cases hv;done) | (rename_i hg;rw[hs _ _ hg];exact hv)
 have c2:∀n off k v,Qg h n off k=some v→Qg h' n off k=some v:=by
  intro n off k v hv
  unfold Qg at hv⊢
  split at hv <;> first | (cases hv;done) | (rename_i hg;rw[hs _ _ hg];exact hv)
 cases o with
 | load s x=>
   cases s with
   | none=>
     simp only[RO.run]at hv⊢
     split at hv
     ·exact c1 _ _ _ hv
     ·cases hv
   | some k=>
     simp only[RO.run]at hv⊢
     split at hv
     ·simp only[Option.map_eq_some_iff]at hv⊢
      obtain⟨a,h1,h2⟩:=hv
      exact⟨a,c2 _ _ _ _ h1,h2⟩
     ·cases hv
 | b2s x=>
   simp only[RO.run]at hv⊢
   split at hv
   ·exact hv
   ·split at hv
    ·rename_i cs hc
     rw[c2 _ _ _ _ hc]
     exact hv
    ·cases hv
   ·cases hv
 | lookup kk z ok m k=>
   simp only[RO.run]at hv⊢
   split at hv
   ·exact hv
   ·split at hv
    ·rename_i es hg
     rw[hs _ _ hg]
     exact hv
    ·cases hv
   ·cases hv
 | Ztt m=>
   simp only[RO.run]at hv⊢
   split at hv
   ·exact hv
   ·split at hv
    ·rename_i es hg
     rw[hs _ _ hg]
     exact hv
    ·cases hv
   ·cases hv
 | toU x=>
   simp only[RO.run]at hv⊢
   split at hv
   ·split at hv
    ·rename_i hg
     rw[hs _ _ hg]
     exact hv
    ·cases hv
   ·cases hv
 | ofU t z x=>
   simp only[RO.run]at hv⊢
   split at hv
   ·split at hv
    ·rename_i hg
     rw[hs _ _ hg]
     exact hv
    ·cases hv
   ·cases hv
 | Sa g l s x=>
   simp only[RO.run]at hv⊢
   split at hv
   ·split at hv
    ·rename_i hg
     rw[hs _ _ hg]
     exact hv
    ·cases hv
   ·cases hv
mutual
theorem Fc:∀{a b:AV},Vg a b=true→a=b
 | .bot,b,h=>by cases b <;> simp_all [Vg]
 | .bool a,b,h=>by cases b <;> simp_all [Vg]
 | .int j a,b,h=>by cases b <;> simp_all [Vg]
 | .str s,b,h=>by
   cases b <;> simp only[Vg]at h <;> first | (cases h;done) | (rw[G5.1 h])
 | .ptr a b,c,h=>by cases c <;> simp_all [Vg]
 | .J8,b,h=>by cases b <;> simp_all [Vg]
 | .slice a b c d,e,h=>by cases e <;> simp_all [Vg]
 | .Zc,b,h=>by cases b <;> simp_all [Vg]
 | .map a,b,h=>by cases b <;> simp_all [Vg]
 | .Vi,b,h=>by cases b <;> simp_all [Vg]
 | .fn f x y,b,h=>by
   cases b <;> simp only[Vg,bool_and,beq_iff_eq]at h <;> first | (cases h;done) | skip
   rw[h.1,Ij h.2.1,Ij h.2.2]
 | .yield a,b,h=>by cases b <;> simp_all [Vg]
 | .Jx,b,h=>by cases b <;> simp_all [Vg]
 | .iface t x,b,h=>by
   cases b <;> simp only[Vg,bool_and,beq_iff_eq]at h <;> first | (cases h;done) | skip
   rw[h.1,Fc h.2]
 | .K6,b,h=>by cases b <;> simp_all [Vg]
 | .agg x,b,h=>by
   cases b <;> simp only[Vg]at h <;> first | (cases h;done) | skip
   rw[Ij h]
 | .tuple x,b,h=>by
   cases b <;> simp only[Vg]at h <;> first | (cases h;done) | skip
   rw[Ij h]
theorem Ij:∀{a b:List AV},Hb a b=true→a=b
 | [],b,h=>by cases b <;> simp_all [Hb]
 | x::a,b,h=>by
   cases b with
   | nil=>simp[Hb]at h
   | cons y b=>
     simp only[Hb,bool_and]at h
     rw[Fc h.1,Ij h.2]
end
end Go.Ev

/- Regions whose order is drawn: what is asked of the order that the evaluator takes. -/
namespace Go.Ev
open Go
structure G where
 i:Nat
 o:MI
 res:List Nat
def Ztm:List G→List RI→Option (List G)
 | acc,[]=>some acc
 | acc,.op i o::r=>Ztm (⟨i,o,[]⟩::acc) r
 | g::acc,.re j::r=>Ztm (⟨g.i,g.o,j::g.res⟩::acc) r
 | [],.re _::_=>none
def MI.isN (o:MI):Bool:=match o.op with | .n _=>true | _=>false
def MI.isR (o:MI):Bool:=match o.op with | .r _=>true | _=>false
def MI.isW (o:MI):Bool:=match o.op with | .w _=>true | _=>false
def aoT:List AO→List Nat
 | []=>[]
 | .t n::r=>n::aoT r
 | .k _::r=>aoT r
def MI.reads (o:MI):List Nat:=
 match o.guard with
 | none=>aoT o.op.aos
 | some (t,_)=>t::aoT o.op.aos
def Zmp (d:Option Nat) (l:List Nat):Bool:=match d with | none=>false | some d=>Po d l
def Zus (a b:Option Nat):Bool:=match a,b with | some a,some b=>decide (a=b) | _,_=>false
def Zxo (p g:MI):Bool:= !Zmp p.dst g.reads && (!Zmp g.dst p.reads && !Zus p.dst g.dst)
inductive MT where
 | nil
 | node (l:MT) (k v:Nat) (r:MT)
def MT.get:MT→Nat→Nat
 | .nil,_=>0
 | .node l k v r,n=>if n=k then v else if n<k then l.get n else r.get n
def MT.of:Nat→Nat→List Nat→MT
 | 0,_,_=> .nil
 | d+1,lo,l=>
   match l.drop (l.length / 2)with
   | []=> .nil
   | v::r=> .node (MT.of d lo (l.take (l.length / 2))) (lo+l.length / 2) v (MT.of d (lo+l.length / 2+1) r)
def nthN:List Nat→Nat→Nat
 | [],_=>0
 | x::_,0=>x
 | _::r,n+1=>nthN r n
def Zmx (f:Nat→Nat):List Edge→Nat
 | []=>0
 | e::r=>if Region.binds .any e=true then(2 ^ e.on ||| f e.on) ||| Zmx f r else Zmx f r
def Zts (f:Nat→Nat) (o:Oper):Nat:=Zmx f o.after.toList
def rowsOf (A:List Nat):List Oper→List Nat
 | []=>A
 | o::r=>match Zts (nthN A) o with | 0=>rowsOf (A++[0]) r | m+1=>rowsOf (A++[Nat.succ m]) r
def mkA (ops:List Oper):MT:=MT.of 20 0 (rowsOf [] ops)
def ltA (A:MT) (a j:Nat):Bool:=(A.get j).testBit a
def Zxn (A:MT) (ops:Array Oper):Bool:=
 (List.range ops.size).all fun i=>match ops[i]? with
   | some o=>decide (A.get i=Zts A.get o)
   | none=>false
theorem Zcy {f:Nat→Nat} {a:Nat}:∀{l:List Edge},(Zmx f l).testBit a=true→∃e∈l,Region.binds .any e=true∧(e.on=a∨(f e.on).testBit a=true)
 | [],h=>by simp[Zmx]at h
 | e::r,h=>by
   simp only[Zmx]at h
   split at h
   ·rename_i hb
    rw[Nat.testBit_or,Nat.testBit_or,Bool.or_eq_true,Bool.or_eq_true,Nat.testBit_two_pow,decide_eq_true_eq]at h
    rcases h with h | h
    ·exact⟨e,List.mem_cons_self,hb,h⟩
    ·obtain⟨e',h1,h2⟩:=Zcy h
     exact⟨e',List.mem_cons_of_mem _ h1,h2⟩
   ·obtain⟨e',h1,h2⟩:=Zcy h
    exact⟨e',List.mem_cons_of_mem _ h1,h2⟩
def onOK (ops:Array Oper):Bool:=
 (List.range ops.size).all fun i=>match ops[i]? with | some o=>o.after.toList.all fun e=> !Region.binds .any e || decide (e.on<i) | none=>false
def Ztw (g:G):List G→Bool
 | []=>false
 | q::_=>match g.o.op,q.o.op,q.o.dst with
   | .r (.b2s (.t d)),.n (.Qe _ _ _ _),some c=>decide (d=c) && (g.o.guard.isNone && q.o.guard.isNone)
   | _,_,_=>false
def Ztx (A:MT) (ow:Bool) (p g:G):Bool:=
 decide (p.i≠g.i) && (!ltA A g.i p.i && (ltA A p.i g.i ||
  (Zxo p.o g.o && (!(p.o.isN && (g.o.isR || g.o.isW)) && (!(p.o.isW && (g.o.isR && !ow || g.o.isW)) && (!(p.o.isR && g.o.isW) || Po p.i g.res))))))
def Zwn (j:Nat) (d:Option Nat) (rs:List Nat):List G→Bool
 | []=>false
 | k::ks=>if k.i=j then !Zmp d rs else !Zmp k.o.dst rs && (!Zus k.o.dst d && Zwn j d rs ks)
def Zbz:List G→Nat→Option MI
 | [],_=>none
 | g::r,i=>if g.i=i then some g.o else Zbz r i
def Zt2 (A:MT):List G→Bool
 | []=>true
 | g::ps=>ps.all (fun p=>Ztx A (Ztw g ps) p g) && (g.res.all (fun j=>match Zbz (g::ps) j with | some o=>Zwn j o.dst o.reads (g::ps) | none=>false) && Zt2 A ps)
def Lt:Mc:=fun X S L ops=>
 match Ztm [] L with
 | none=>false
 | some gs=>
   decide (gs.length=ops.size) && ((List.range ops.size).all (fun i=>gs.any fun g=>decide (g.i=i)) &&
    (gs.all (fun g=>match ops[g.i]? with | some o=>Zqc X S ops g.o o | none=>false) && (onOK ops && (Zxn (mkA ops.toList) ops && Zt2 (mkA ops.toList) gs))))
end Go.Ev

/- Regions whose order is drawn: what the evaluator's run leaves behind, step by step. -/
namespace Go.Ev
open Go
variable {X : Cx} {N N' N'' : Nu} {D : Mc}
inductive Eff where
 | non
 | new (n:Nat) (b:Qb)
 | post (st:St)
def Eff.ap:Eff→St→St
 | .non,s=>s
 | .new n b,s=>⟨(n,b)::s.h,s.nx⟩
 | .post s,_=>s
structure En where
 g:G
 e:Env
 st:St
 v:AV
 f:Eff
inductive Good (call:Qx) (nm:Nat) (o:MI) (e:Env) (st:St):AV→Eff→Nat→Prop where
 | skip:wanted e o.guard=some false→Good call nm o e st Hz .non nm
 | p {p:PO} {v:AV}:wanted e o.guard=some true→o.op= .p p→PO.run (AO.ev e) p=some v→Good call nm o e st v .non nm
 | r {p:RO} {v:AV}:wanted e o.guard=some true→o.op= .r p→RO.run (AO.ev e) st.h p=some v→Good call nm o e st v .non nm
 | n {p:NO} {v:AV} {b:Qb}:wanted e o.guard=some true→o.op= .n p→NO.run (AO.ev e) nm p=some (v,b)→Good call nm o e st v (.new nm b) (nm+1)
 | w {p:WO} {v:AV} {st':St}:wanted e o.guard=some true→o.op= .w p→WO.run call (AO.ev e) st p=some (v,st')→Good call nm o e st v (.post st') nm
theorem Zoa {call:Qx} {nm nm':Nat} {o:MI} {e e':Env} {st st':St} (h:G9 call nm o e st=some (e',st',nm')):
  ∃v f,Good call nm o e st v f nm'∧e'=Vm e o.dst v∧st'=f.ap st∧nm'≤nm+1:=by
 unfold G9 at h
 split at h
 ·rename_i hw
  split at h
  ·rename_i p hp
   split at h
   ·rename_i v b hn
    cases h
    exact⟨v,_,.n hw hp hn,rfl,rfl,Nat.le_refl _⟩
   ·cases h
  ·rename_i m hm
   split at h
   ·rename_i v st1 hr
    cases h
    cases hop:o.op with
    | n p=>exact absurd hop (hm p)
    | p p=>
      rw[hop]at hr
      simp only[MO.run]at hr
      split at hr
      ·rename_i u hu
       cases hr
       exact⟨_,_,.p hw hop hu,rfl,rfl,Nat.le_succ _⟩
      ·cases hr
    | r p=>
      rw[hop]at hr
      simp only[MO.run]at hr
      split at hr
      ·rename_i u hu
       cases hr
       exact⟨_,_,.r hw hop hu,rfl,rfl,Nat.le_succ _⟩
      ·cases hr
    | w p=>
      rw[hop]at hr
      exact⟨_,_,.w hw hop hr,rfl,rfl,Nat.le_succ _⟩
   ·cases h
 ·rename_i hw
  cases h
  exact⟨_,_,.skip hw,rfl,rfl,Nat.le_succ _⟩
 ·cases h
def ReF (o:MI) (e:Env) (st:St):Prop:=wanted e o.guard=some true→∃p d,o.op= .r p∧o.dst=some d∧RO.run (AO.ev e) st.h p=some (Zl e d)
theorem Zaeg {done:List (Nat×MI)} {i:Nat} {e:Env} {st:St} (h:reI done i e st=true):∃o,Zbw done i=some o∧ReF o e st:=by
 unfold reI at h
 split at h
 ·cases h
 ·rename_i o ho
  refine⟨o,ho,fun hw=> ?_⟩
  rw[hw]at h
  simp only at h
  split at h
  ·rename_i p d hp hd
   split at h
   ·rename_i v hv
    rw[Fc h]at hv
    exact⟨p,d,hp,hd,hv⟩
   ·cases h
  ·cases h
inductive Tr (call:Qx) (nm0:Nat) (e0:Env) (st0:St):List En→Nat→Env→St→Prop where
 | nil:Tr call nm0 e0 st0 [] nm0 e0 st0
 | op {T:List En} {nm nm':Nat} {e:Env} {st:St} {g:G} {v:AV} {f:Eff}:Tr call nm0 e0 st0 T nm e st→Good call nm g.o e st v f nm'→
    (∀j∈g.res,∃o,Zbz (g::T.map En.g) j=some o∧ReF o (Vm e g.o.dst v) (f.ap st))→Tr call nm0 e0 st0 (⟨g,e,st,v,f⟩::T) nm' (Vm e g.o.dst v) (f.ap st)
theorem Zc5 {call:Qx} {nm0:Nat} {e0:Env} {st0:St}:∀(L:List RI) (done:List (Nat×MI)) (nm:Nat) (e e':Env) (st st':St) (T:List En) (gs:List G),
  G2 call done nm L e st=some (e',st')→Tr call nm0 e0 st0 T nm e st→(∀j,Zbw done j=Zbz (T.map En.g) j)→Ztm (T.map En.g) L=some gs→
  ∃T' nm',Tr call nm0 e0 st0 T' nm' e' st'∧T'.map En.g=gs∧nm'≤nm+L.length
 | [],done,nm,e,e',st,st',T,gs,hv,ht,hd,hg=>by
   cases hv
   cases hg
   exact⟨T,nm,ht,rfl,Nat.le_refl _⟩
 | .op i o::L,done,nm,e,e',st,st',T,gs,hv,ht,hd,hg=>by
   simp only[G2]at hv
   split at hv
   ·rename_i e1 st1 nm1 h1
    obtain⟨v,f,hgood,rfl,rfl,hle⟩:=Zoa h1
    simp only[Ztm]at hg
    obtain⟨T',nm',a,b,c⟩:=Zc5 L _ _ _ _ _ _ (⟨⟨i,o,[]⟩,e,st,v,f⟩::T) gs hv (.op (g:=⟨i,o,[]⟩) ht hgood (fun j hj=>by cases hj))
     (fun j=>by simp only[Zbw,List.map_cons,Zbz,hd]) hg
    exact⟨T',nm',a,b,by simp only[List.length_cons];omega⟩
   ·cases hv
 | .re j::L,done,nm,e,e',st,st',T,gs,hv,ht,hd,hg=>by
   simp only[G2]at hv
   split at hv
   ·rename_i h1
    obtain⟨o,ho,hre⟩:=Zaeg h1
    cases ht with
    | nil=>simp[Ztm]at hg
    | @op T nm2 _ e2 st2 g v f ht hgood hres=>
      simp only[List.map_cons,Ztm]at hg
      obtain⟨T',nm',a,b,c⟩:=Zc5 L done _ _ _ _ _ (⟨⟨g.i,g.o,j::g.res⟩,e2,st2,v,f⟩::T) gs hv
       (.op (g:=⟨g.i,g.o,j::g.res⟩) ht hgood (fun q hq=>by
         rcases List.mem_cons.1 hq with rfl | hq
         ·refine⟨o,?_,hre⟩
          rw[hd]at ho
          exact ho
         ·exact hres q hq))
       (fun q=>by rw[hd];rfl) hg
      exact⟨T',nm',a,b,by simp only[List.length_cons];omega⟩
   ·cases hv
def ES (S:Nat→Bool) (e0:Env):List En→Env
 | []=>e0
 | k::T=>if S k.g.i=true then Vm (ES S e0 T) k.g.o.dst k.v else ES S e0 T
def HS (S:Nat→Bool) (st0:St):List En→St
 | []=>st0
 | k::T=>if S k.g.i=true then k.f.ap (HS S st0 T)else HS S st0 T
def news (S:Nat→Bool):List En→Heap
 | []=>[]
 | k::T=>if S k.g.i=true then(match k.f with | .new n b=>(n,b)::news S T | _=>news S T)else news S T
variable {call : Qx} {nm0 : Nat} {e0 : Env} {st0 : St}
theorem Zim {T:List En} {nm:Nat} {e:Env} {st:St} (h:Tr call nm0 e0 st0 T nm e st):ES (fun _=>true) e0 T=e∧HS (fun _=>true) st0 T=st:=by
 induction h with
 | nil=>exact⟨rfl,rfl⟩
 | op _ _ _ ih=>exact⟨by simp only[ES,if_true,ih.1],by simp only[HS,if_true,ih.2]⟩
theorem Good.Zym {nm nm':Nat} {o:MI} {e:Env} {st:St} {v:AV} {f:Eff} (h:Good call nm o e st v f nm'):nm≤nm'∧∀n b,f= .new n b→n=nm∧nm'=nm+1:=by
 cases h with
 | n=>exact⟨Nat.le_succ _,fun n b h=>by cases h;exact⟨rfl,rfl⟩⟩
 | _=>exact⟨Nat.le_refl _,fun n b h=>by cases h⟩
theorem Zk5 {T:List En} {nm:Nat} {e:Env} {st:St} (h:Tr call nm0 e0 st0 T nm e st):nm0≤nm∧∀k∈T,∀n b,k.f= .new n b→nm0≤n∧n<nm:=by
 induction h with
 | nil=>exact⟨Nat.le_refl _,fun k hk=>by cases hk⟩
 | op _ hg _ ih=>
   obtain⟨h1,h2⟩:=hg.Zym
   refine⟨by omega,fun k hk n b hf=> ?_⟩
   rcases List.mem_cons.1 hk with rfl | hk
   ·obtain⟨rfl,h3⟩:=h2 n b hf
    omega
   ·have:=ih.2 k hk n b hf
    omega
theorem Zac:∀{T2:List En} {k:En} {T1:List En} {nm:Nat} {e:Env} {st:St},Tr call nm0 e0 st0 (T2++k::T1) nm e st→
  ∃nm1 nm2,Tr call nm0 e0 st0 T1 nm1 k.e k.st∧Good call nm1 k.g.o k.e k.st k.v k.f nm2∧nm2≤nm∧(∀q∈T2,∀n b,q.f= .new n b→nm2≤n∧n<nm)∧
   (∀j∈k.g.res,∃o,Zbz (k.g::T1.map En.g) j=some o∧ReF o (Vm k.e k.g.o.dst k.v) (k.f.ap k.st))
 | [],k,T1,nm,e,st,h=>by
   cases h with
   | op ht hg hr=>exact⟨_,_,ht,hg,Nat.le_refl _,(fun q hq=>by cases hq),hr⟩
 | q::T2,k,T1,nm,e,st,h=>by
   cases h with
   | op ht hg hr=>
     obtain⟨nm1,nm2,a,b,c,d,f⟩:=Zac ht
     obtain⟨h1,h2⟩:=hg.Zym
     refine⟨nm1,nm2,a,b,by omega,fun q' hq n bb hf=> ?_,f⟩
     rcases List.mem_cons.1 hq with rfl | hq
     ·obtain⟨rfl,h3⟩:=h2 n bb hf
      omega
     ·have:=d q' hq n bb hf
      omega
theorem M1 (e:Env) (d:Option Nat) (v:AV) (t:Nat):Zl (Vm e d v) t=if d=some t then v else Zl e t:=by
 cases d with
 | none=>simp[Vm]
 | some m=>
   simp only[Vm,R5,Zl,Option.some.injEq]
theorem Zda {S S':Nat→Bool} {t:Nat}:∀{T:List En},(∀k∈T,S k.g.i=S' k.g.i∨k.g.o.dst≠some t)→Zl (ES S e0 T) t=Zl (ES S' e0 T) t
 | [],_=>rfl
 | k::T,h=>by
   have ih:=Zda (T:=T) (fun q hq=>h q (List.mem_cons_of_mem _ hq))
   simp only[ES]
   rcases h k List.mem_cons_self with hk | hk
   ·rw[hk]
    split
    ·rw[M1,M1,ih]
    ·exact ih
   ·split <;> split <;> simp only[M1,if_neg hk,ih]
theorem R9 {S S':Nat→Bool}:∀{T:List En},(∀k∈T,S k.g.i=S' k.g.i∨k.f= .non)→HS S st0 T=HS S' st0 T
 | [],_=>rfl
 | k::T,h=>by
   have ih:=R9 (T:=T) (fun q hq=>h q (List.mem_cons_of_mem _ hq))
   simp only[HS]
   rcases h k List.mem_cons_self with hk | hk
   ·rw[hk,ih]
   ·rw[hk,ih]
    split <;> split <;> rfl
theorem Zid {S:Nat→Bool} {t:Nat} {R:List En}:∀{T2:List En},(∀k∈T2,S k.g.i=true→k.g.o.dst≠some t)→Zl (ES S e0 (T2++R)) t=Zl (ES S e0 R) t
 | [],_=>rfl
 | k::T,h=>by
   have ih:=Zid (R:=R) (T2:=T) (fun q hq=>h q (List.mem_cons_of_mem _ hq))
   simp only[List.cons_append,ES]
   split
   ·rename_i hs
    rw[M1,if_neg (h k List.mem_cons_self hs),ih]
   ·exact ih
theorem Ga {S:Nat→Bool} {R:List En}:∀{T2:List En},(∀k∈T2,S k.g.i=true→∀s,k.f≠.post s)→HS S st0 (T2++R)=⟨news S T2++(HS S st0 R).h,(HS S st0 R).nx⟩
 | [],_=>rfl
 | k::T,h=>by
   have ih:=Ga (R:=R) (T2:=T) (fun q hq=>h q (List.mem_cons_of_mem _ hq))
   simp only[List.cons_append,HS,news]
   split
   ·rename_i hs
    have:=h k List.mem_cons_self hs
    cases hf:k.f with
    | non=>simp only[Eff.ap,ih]
    | new n b=>simp only[Eff.ap,ih,List.cons_append]
    | post s=>exact absurd hf (this s)
   ·exact ih
theorem P0 {S S':Nat→Bool}:∀{T:List En},(∀k∈T,S k.g.i=S' k.g.i)→news S T=news S' T
 | [],_=>rfl
 | k::T,h=>by
   simp only[news]
   rw[h k List.mem_cons_self,P0 (fun q hq=>h q (List.mem_cons_of_mem _ hq))]
theorem Bm {S:Nat→Bool} {n:Nat} {b:Qb}:∀{T:List En},Zh (news S T) n=some b→∃k∈T,S k.g.i=true∧k.f= .new n b
 | [],h=>by cases h
 | k::T,h=>by
   simp only[news]at h
   split at h
   ·rename_i hs
    split at h
    ·rename_i m c hf
     simp only[Zh]at h
     split at h
     ·rename_i e;subst e;cases h
      exact⟨k,List.mem_cons_self,hs,hf⟩
     ·obtain⟨q,hq,h1,h2⟩:=Bm h
      exact⟨q,List.mem_cons_of_mem _ hq,h1,h2⟩
    ·obtain⟨q,hq,h1,h2⟩:=Bm h
     exact⟨q,List.mem_cons_of_mem _ hq,h1,h2⟩
   ·obtain⟨q,hq,h1,h2⟩:=Bm h
    exact⟨q,List.mem_cons_of_mem _ hq,h1,h2⟩
theorem Uf:∀{a b:Heap} {n:Nat},Zh (a++b) n=(Zh a n).or (Zh b n)
 | [],b,n=>rfl
 | (m,o)::a,b,n=>by
   simp only[List.cons_append,Zh]
   split
   ·rfl
   ·exact Uf
theorem Bt.named {w:World} {n:Nat} {o:Qb} (h:Bt D X N w n o):∃a,N.ρ n=some a:=by
 cases o with
 | cells ty l cs=>obtain⟨b,us,fz,h1,_⟩:=h;exact⟨_,h1⟩
 | buf ty es cs=>obtain⟨b,us,fz,h1,_⟩:=h;exact⟨_,h1⟩
 | ro cs=>obtain⟨a,h1,_⟩:=h;exact⟨_,h1⟩
 | map es=>obtain⟨b,mes,clk,h1,_⟩:=h;exact⟨_,h1⟩
 | Wz g cs=>obtain⟨us,t,fz,h1,_⟩:=h;exact⟨_,h1⟩
 | iter s pos=>obtain⟨b,h1,_⟩:=h;exact⟨_,h1⟩
 | loop st env ps assign body=>obtain⟨b,l,S,h1,_⟩:=h;exact⟨_,h1⟩
theorem Zac5 {ev:AO→AV} {n:Nat} {p:NO} {v:AV} {b:Qb} (h:NO.run ev n p=some (v,b)):b.own=true:=by
 cases p <;> simp only[NO.run]at h
 ·cases h;rfl
 ·split at h <;> cases h;rfl
 ·split at h <;> cases h;rfl
 ·split at h
  ·split at h <;> cases h;rfl
  ·cases h
 ·cases h;rfl
 ·split at h <;> cases h;rfl
 ·split at h <;> cases h;rfl
theorem Zahc {Y h h':Heap} {w w':World} (hr:HR D X N (Y++h) w) (hr':HR D X N' h' w') (g:Gd N h w N' h' w') (hown:∀n o,Zh Y n=some o→o.own=true)
  (hY:∀n o,Zh Y n=some o→Zh h n=none):
  HR D X N' (Y++h') w'∧Gd N (Y++h) w N' (Y++h') w'∧∀n o,Zh Y n=some o→Zh h' n=none:=by
 have inY:∀n o,Zh Y n=some o→Zh (Y++h) n=some o:=fun n o ho=>by rw[Uf,ho];rfl
 have inh:∀n o,Zh h n=some o→Zh (Y++h) n=some o:=fun n o ho=>by
  rw[Uf]
  cases hy:Zh Y n with
  | none=>exact ho
  | some q=>rw[hY n q hy]at ho;cases ho
 have apart:∀n o a m p c,Zh Y n=some o→N.ρ n=some a→Zh h m=some p→N.ρ m=some c→a.block≠c.block:=by
  intro n o a m p c h1 h2 h3 h4 e
  have:=hr.sep n m o p a c (inY n o h1) (inh m p h3) (hown n o h1) h2 h4 e
  subst this
  rw[hY n o h1]at h3
  cases h3
 have key:∀n o a m p c,Zh Y n=some o→N.ρ n=some a→Zh h' m=some p→N'.ρ m=some c→a.block≠c.block:=by
  intro n o a m p c h1 h2 h3 h4 e
  rcases g.has m p c h3 h4 with ⟨q,r,d,k1,k2,k3,_⟩ | hge
  ·exact apart n o a q r d h1 h2 k1 k2 (e.trans k3.symm)
  ·have:=(hr.Um n o (inY n o h1)).lt h2
   omega
 have named:∀n o,Zh Y n=some o→∃a,N.ρ n=some a∧N'.ρ n=some a:=fun n o ho=>by
  obtain⟨a,ha⟩:=(hr.Um n o (inY n o ho)).named
  exact⟨a,ha,(g.le n a ha).1⟩
 have third:∀n o,Zh Y n=some o→Zh h' n=none:=by
  intro n o ho
  obtain⟨a,ha,ha'⟩:=named n o ho
  cases hq:Zh h' n with
  | none=>rfl
  | some p=>exact absurd rfl (key n o a n p a ho ha hq ha')
 have cases':∀n o,Zh (Y++h') n=some o→Zh Y n=some o∨Zh h' n=some o:=by
  intro n o ho
  rw[Uf]at ho
  cases hy:Zh Y n with
  | none=>rw[hy]at ho;exact .inr ho
  | some q=>rw[hy]at ho;exact .inl ho
 refine⟨⟨fun n o ho=> ?_,fun n m o p a c ho hp hpo ha hc hac=> ?_⟩,⟨g.le,g.size,g.tape,g.os,g.output,fun b hb hn=>g.frame b hb (fun hw=>hn ?_),fun n o a ho ha=> ?_⟩,third⟩
 ·rcases cases' n o ho with ho | ho
  ·refine(hr.Um n o (inY n o ho)).Zd g.le g.size (fun a ha=>g.frame _ ((hr.Um n o (inY n o ho)).lt ha) ?_)
   rintro⟨m,p,c,h1,h2,h3,h4⟩
   exact apart n o a m p c ho ha h1 h3 h4.symm
  ·exact hr'.Um n o ho
 ·rcases cases' n o ho with ho | ho
  ·obtain⟨a',ha1,ha2⟩:=named n o ho
   rw[ha]at ha2;cases ha2
   rcases cases' m p hp with hp | hp
   ·obtain⟨c',hc1,hc2⟩:=named m p hp
    rw[hc]at hc2;cases hc2
    exact hr.sep n m o p a c (inY n o ho) (inY m p hp) hpo ha1 hc1 hac
   ·exact absurd hac (key n o a m p c ho ha1 hp hc)
  ·rcases cases' m p hp with hp | hp
   ·obtain⟨c',hc1,hc2⟩:=named m p hp
    rw[hc]at hc2;cases hc2
    exact absurd hac.symm (key m p c n o a hp hc1 ho ha)
   ·exact hr'.sep n m o p a c ho hp hpo ha hc hac
 ·obtain⟨m,p,c,h1,h2,h3,h4⟩:=hw
  exact⟨m,p,c,inh m p h1,h2,h3,h4⟩
 ·rcases cases' n o ho with ho | ho
  ·obtain⟨a',ha1,ha2⟩:=named n o ho
   rw[ha]at ha2;cases ha2
   exact .inl ⟨n,o,a,inY n o ho,ha1,rfl,id⟩
  ·rcases g.has n o a ho ha with ⟨m,p,c,k1,k2,k3,k4⟩ | hge
   ·exact .inl ⟨m,p,c,inh m p k1,k2,k3,k4⟩
   ·exact .inr hge
end Go.Ev

/- Regions whose order is drawn: one operation, whichever is drawn. -/
namespace Go.Ev
open Go
variable {X : Cx} {N N' N'' : Nu} {D : Mc}
theorem Bj {n:Nat}:∀{l:List Nat},Po n l=true↔n∈l
 | []=>by simp[Po]
 | m::l=>by
   simp only[Po,List.mem_cons]
   by_cases h:m=n
   ·simp[h]
   ·rw[if_neg h,Bj]
    constructor
    ·exact .inr
    ·rintro(rfl | h')
     ·exact absurd rfl h
     ·exact h'
theorem Ff {d:Option Nat} {l:List Nat} (h:(!Zmp d l)=true):∀t∈l,d≠some t:=by
 intro t ht e
 subst e
 simp only[Zmp,Bool.not_eq_true']at h
 rw[Bj.2 ht]at h
 cases h
theorem Zgv {a b:Option Nat} (h:(!Zus a b)=true):∀t,a=some t→b≠some t:=by
 intro t ha hb
 subst ha hb
 simp[Zus]at h
structure Zxb (p g:MI):Prop where
 a:∀t∈g.reads,p.dst≠some t
 b:∀t∈p.reads,g.dst≠some t
 c:∀t,p.dst=some t→g.dst≠some t
structure Pair (A:MT) (ow:Bool) (p g:G):Prop where
 ne:p.i≠g.i
 lin:ltA A g.i p.i≠true
 or:ltA A p.i g.i=true∨(Zxb p.o g.o∧(p.o.isN=true→g.o.isR=false∧g.o.isW=false)∧(p.o.isW=true→(g.o.isR=false∨ow=true)∧g.o.isW=false)∧
  (p.o.isR=true→g.o.isW=true→p.i∈g.res))
theorem Zg8 {A:MT} {ow:Bool} {p g:G} (h:Ztx A ow p g=true):Pair A ow p g:=by
 simp only[Ztx,bool_and,decide_eq_true_eq,Bool.or_eq_true]at h
 obtain⟨h1,h2,h3⟩:=h
 refine⟨h1,by simpa using h2,?_⟩
 rcases h3 with h3 | ⟨h3,h4,h5,h6⟩
 ·exact .inl h3
 ·right
  simp only[Zxo,bool_and]at h3
  refine⟨⟨Ff h3.1,Ff h3.2.1,Zgv h3.2.2⟩,fun hn=> ?_,fun hw=> ?_,fun hr hw=> ?_⟩
  ·simp only[hn,Bool.true_and,Bool.not_or,bool_and,Bool.not_eq_true']at h4
   exact h4
  ·simp only[hw,Bool.true_and,Bool.not_or,bool_and,Bool.not_eq_true']at h5
   refine⟨?_,h5.2⟩
   cases ho:ow with
   | true=>exact .inr rfl
   | false=>rw[ho]at h5;left;simpa using h5.1
  ·rcases h6 with h6 | h6
   ·simp[hr,hw]at h6
   ·exact Bj.1 h6
theorem Zie {n:Nat}:∀{l:List AO},AO.t n∈l→n∈aoT l
 | .t m::l,h=>by
   simp only[aoT,List.mem_cons,AO.t.injEq]at h⊢
   rcases h with h | h
   ·exact .inl h
   ·exact .inr (Zie h)
 | .k v::l,h=>by
   simp only[aoT]
   rcases List.mem_cons.1 h with h | h
   ·cases h
   ·exact Zie h
theorem Zhd {o:MI} {e1 e2:Env} (h:∀t∈o.reads,Zl e1 t=Zl e2 t):(∀a∈o.op.aos,AO.ev e1 a=AO.ev e2 a)∧wanted e1 o.guard=wanted e2 o.guard:=by
 unfold MI.reads at h
 cases hg:o.guard with
 | none=>
   rw[hg]at h
   refine⟨fun a ha=> ?_,rfl⟩
   cases a with
   | t n=>exact h n (Zie ha)
   | k v=>rfl
 | some p=>
   obtain⟨t,b⟩:=p
   rw[hg]at h
   refine⟨fun a ha=> ?_,?_⟩
   ·cases a with
    | t n=>exact h n (List.mem_cons_of_mem _ (Zie ha))
    | k v=>rfl
   ·simp only[wanted,h t List.mem_cons_self]
theorem Zg0 {k:En} {T1:List En}:∀{T2:List En},(∀q∈T2,q.g.i≠k.g.i)→Zbz ((T2++k::T1).map En.g) k.g.i=some k.g.o
 | [],_=>by simp[Zbz]
 | q::T2,h=>by
   simp only[List.cons_append,List.map_cons,Zbz]
   rw[if_neg (h q List.mem_cons_self)]
   exact Zg0 (fun q hq=>h q (List.mem_cons_of_mem _ hq))
theorem Zkt {k:En} {T1:List En} {d:Option Nat} {rs:List Nat}:∀{T2:List En},(∀q∈T2,q.g.i≠k.g.i)→Zwn k.g.i d rs ((T2++k::T1).map En.g)=true→
  (∀q∈T2,(∀t∈rs,q.g.o.dst≠some t)∧∀t,d=some t→q.g.o.dst≠some t)∧∀t∈rs,d≠some t
 | [],_,h=>by
   simp only[List.nil_append,List.map_cons,Zwn,if_true]at h
   exact⟨(fun q hq=>nomatch hq),Ff h⟩
 | q::T2,hq,h=>by
   simp only[List.cons_append,List.map_cons,Zwn]at h
   rw[if_neg (hq q List.mem_cons_self)]at h
   simp only[bool_and]at h
   obtain⟨h1,h2⟩:=Zkt (fun q hq'=>hq q (List.mem_cons_of_mem _ hq')) h.2.2
   refine⟨fun r hr=> ?_,h2⟩
   rcases List.mem_cons.1 hr with rfl | hr
   ·exact⟨Ff h.1,fun t ht e=>Zgv h.2.1 t e ht⟩
   ·exact h1 r hr
theorem Zkq {A:MT} {k:En} {T1:List En}:∀{T2:List En},Zt2 A ((T2++k::T1).map En.g)=true→
  (∀p∈T1,Pair A (Ztw k.g (T1.map En.g)) p.g k.g)∧(∀q∈T2,∃ow,Pair A ow k.g q.g)∧∀j∈k.g.res,∃o,Zbz ((k::T1).map En.g) j=some o∧Zwn j o.dst o.reads ((k::T1).map En.g)=true
 | [],h=>by
   simp only[List.nil_append,List.map_cons,Zt2,bool_and,List.all_eq_true]at h
   refine⟨fun p hp=>Zg8 (h.1 p.g (List.mem_map_of_mem hp)),(fun q hq=>by cases hq),fun j hj=> ?_⟩
   have:=h.2.1 j hj
   split at this
   ·rename_i o ho
    exact⟨o,ho,this⟩
   ·cases this
 | q::T2,h=>by
   simp only[List.cons_append,List.map_cons,Zt2,bool_and,List.all_eq_true]at h
   obtain⟨h1,h2,h3⟩:=Zkq h.2.2
   refine⟨h1,fun r hr=> ?_,h3⟩
   rcases List.mem_cons.1 hr with rfl | hr
   ·exact⟨_,Zg8 (h.1 k.g (List.mem_map_of_mem (by simp)))⟩
   ·exact h2 r hr
def R6 (S:Nat→Bool) (j:Nat):Nat→Bool:=fun i=>if i=j then true else S i
structure Inv (D:Mc) (X:Cx) (nm0:Nat) (e0:Env) (st0:St) (A:MT) (T:List En) (N0:Nu) (w0:World) (S:Nat→Bool) (N:Nu) (t:Array Value) (w:World):Prop where
 env:Kr X N (ES S e0 T) t
 sr:SR D X N (HS S st0 T) w
 gd:Gd N0 st0.h w0 N (HS S st0 T).h w
 nx:st0.nx≤(HS S st0 T).nx
 old:∀n,n<nm0→N.ρ n=N0.ρ n
 un:∀k∈T,S k.g.i=false→∀n b,k.f= .new n b→N.ρ n=none
 x4:∀T2 R,T=T2++R→(∀k∈T2,S k.g.i=true→∀s,k.f≠.post s)→∀k∈T2,S k.g.i=true→∀n b,k.f= .new n b→Zh (HS S st0 R).h n=none
 cl:∀k,S k=true→∀a,ltA A a k=true→S a=true
variable {call : Qx} {nm0 nm : Nat} {e0 e : Env} {st0 st : St} {A : MT} {T : List En} {N0 : Nu} {w0 w : World} {S : Nat → Bool} {t : Array Value}
theorem Good.kind {nm nm':Nat} {o:MI} {e:Env} {st:St} {v:AV} {f:Eff} (h:Good call nm o e st v f nm'):
  (∀s,f= .post s→o.isW=true)∧(∀n b,f= .new n b→o.isN=true)∧(f≠.non→o.isN=true∨o.isW=true):=by
 cases h with
 | skip h=>exact⟨(fun s h=>nomatch h),(fun n b h=>nomatch h),fun h=>absurd rfl h⟩
 | p h1 h2 h3=>exact⟨(fun s h=>nomatch h),(fun n b h=>nomatch h),fun h=>absurd rfl h⟩
 | r h1 h2 h3=>exact⟨(fun s h=>nomatch h),(fun n b h=>nomatch h),fun h=>absurd rfl h⟩
 | n h1 h2 h3=>exact⟨(fun s h=>nomatch h),(fun n b h=>by simp[MI.isN,h2]),fun h=> .inl (by simp[MI.isN,h2])⟩
 | w h1 h2 h3=>exact⟨(fun s h=>by simp[MI.isW,h2]),(fun n b h=>nomatch h),fun h=> .inr (by simp[MI.isW,h2])⟩
theorem Zz9 {T2 T1 Ta R:List En} {k:En} (h:T2++k::T1=Ta++R):(∃Tm,Ta=T2++k::Tm∧T1=Tm++R)∨∃Tm,R=Tm++k::T1∧T2=Ta++Tm:=by
 rcases List.append_eq_append_iff.1 h with ⟨as,h1,h2⟩ | ⟨bs,h1,h2⟩
 ·cases as with
  | nil=>exact .inr ⟨[],by simpa using h2.symm,by simpa using h1.symm⟩
  | cons a as=>
    simp only[List.cons_append,List.cons.injEq]at h2
    obtain⟨rfl,h2⟩:=h2
    exact .inl ⟨as,h1,h2⟩
 ·exact .inr ⟨bs,h2,h1⟩
end Go.Ev

/- Regions whose order is drawn: what holds of the operations made so far is kept by the next. -/
namespace Go.Ev
open Go
variable {X : Cx} {N N' N'' : Nu} {D : Mc}
variable {call : Qx} {nm0 nm : Nat} {e0 e : Env} {st0 st : St} {A : MT} {T : List En} {N0 : Nu} {w0 w : World} {S : Nat → Bool} {t : Array Value}
theorem Zabz {k:En} (h:Tr call nm0 e0 st0 (k::T) nm e st):e=Vm k.e k.g.o.dst k.v∧st=k.f.ap k.st:=by
 cases h with
 | op=>exact⟨rfl,rfl⟩
theorem Zab0 (h:Tr call nm0 e0 st0 T nm e st):∀k∈T,(∀s,k.f= .post s→k.g.o.isW=true)∧(∀n b,k.f= .new n b→k.g.o.isN=true)∧(k.f≠.non→k.g.o.isN=true∨k.g.o.isW=true):=by
 induction h with
 | nil=>intro k hk;cases hk
 | op _ hg _ ih=>
   intro k hk
   rcases List.mem_cons.1 hk with rfl | hk
   ·exact hg.kind
   ·exact ih k hk
theorem Zaeu (h:Tr call nm0 e0 st0 T nm e st):∀k∈T,∀n b,k.f= .new n b→b.own=true:=by
 induction h with
 | nil=>intro k hk;cases hk
 | op _ hg _ ih=>
   intro k hk n b hf
   rcases List.mem_cons.1 hk with rfl | hk
   ·cases hg with
    | n h1 h2 h3=>cases hf;exact Zac5 h3
    | _=>cases hf
   ·exact ih k hk n b hf
theorem Zyk {n:Nat} {b:Qb} {k:En} (hs:S k.g.i=true) (hf:k.f= .new n b) {T:List En} (hk:k∈T):∃c,Zh (news S T) n=some c:=by
 induction T with
 | nil=>cases hk
 | cons q T ih=>
   simp only[news]
   rcases List.mem_cons.1 hk with rfl | hk
   ·rw[if_pos hs,hf]
    exact⟨b,by simp[Zh]⟩
   ·obtain⟨c,hc⟩:=ih hk
    by_cases hq:S q.g.i=true
    ·rw[if_pos hq]
     cases hqf:q.f with
     | non=>exact⟨c,hc⟩
     | new m b'=>
       simp only[Zh]
       by_cases hm:m=n
       ·rw[if_pos hm];exact⟨_,rfl⟩
       ·rw[if_neg hm];exact⟨c,hc⟩
     | post s=>exact⟨c,hc⟩
    ·rw[if_neg hq]
     exact⟨c,hc⟩
theorem Vy {i j:Nat} (h:i≠j):R6 S j i=S i:=by simp[R6,h]
theorem Zaq {j:Nat}:R6 S j j=true:=by simp[R6]
section
variable {k : En} {T2 T1 : List En}
theorem Zpx (hT:Tr call nm0 e0 st0 (T2++k::T1) nm e st) (inv:Inv D X nm0 e0 st0 A (T2++k::T1) N0 w0 S N t w) (hnS:S k.g.i=false)
  (ne1:∀p∈T1,p.g.i≠k.g.i) (ne2:∀q∈T2,q.g.i≠k.g.i)
  (hnew:∀n b,k.f= .new n b→∀q∈T2,S q.g.i=true→∀s,q.f≠.post s)
  (hpost:∀s,k.f= .post s→(∀q∈T2,S q.g.i=true→∀s',q.f≠.post s')∧∀n o,Zh (news S T2) n=some o→Zh s.h n=none):
  ∀Ta R,T2++k::T1=Ta++R→(∀q∈Ta,R6 S k.g.i q.g.i=true→∀s,q.f≠.post s)→∀q∈Ta,R6 S k.g.i q.g.i=true→∀n b,q.f= .new n b→
   Zh (HS (R6 S k.g.i) st0 R).h n=none:=by
 intro Ta R hsplit hnp q hq hS' n b hf
 have hmono:∀i,S i=true→R6 S k.g.i i=true:=fun i hi=>by simp only[R6];split <;> first | rfl | exact hi
 have hnpS:∀q∈Ta,S q.g.i=true→∀s,q.f≠.post s:=fun q hq hs=>hnp q hq (hmono _ hs)
 rcases Zz9 hsplit with ⟨Tm,hTa,hT1⟩ | ⟨Tm,hR,hT2⟩
 ·have hR:HS (R6 S k.g.i) st0 R=HS S st0 R:=R9 (fun p hp=> .inl (Vy (ne1 p (by rw[hT1];exact List.mem_append_right _ hp))))
  rw[hR]
  by_cases he:q.g.i=k.g.i
  ·have hqk:q=k:=by
    rw[hTa]at hq
    rcases List.mem_append.1 hq with h | h
    ·exact absurd he (ne2 q h)
    ·rcases List.mem_cons.1 h with h | h
     ·exact h
     ·exact absurd he (ne1 q (by rw[hT1];exact List.mem_append_left _ h))
   subst hqk
   cases hg:Zh (HS S st0 R).h n with
   | none=>rfl
   | some ob=>
     exfalso
     have hp:=Ga (st0:=st0) (R:=R) hnpS
     rw[←hsplit]at hp
     have hs:=inv.sr.hr
     rw[hp]at hs
     have:∃ob',Zh (news S Ta++(HS S st0 R).h) n=some ob':=by
      rw[Uf]
      cases Zh (news S Ta) n with
      | none=>exact⟨ob,hg⟩
      | some c=>exact⟨c,rfl⟩
     obtain⟨ob',ho'⟩:=this
     obtain⟨a,ha⟩:=(hs.Um n ob' ho').named
     rw[inv.un q (by simp) hnS n b hf]at ha
     cases ha
  ·exact inv.x4 Ta R hsplit hnpS q hq (by rw[Vy he]at hS';exact hS') n b hf
 ·have hq2:q∈T2:=by rw[hT2];exact List.mem_append_left _ hq
  have hSq:S q.g.i=true:=by rw[Vy (ne2 q hq2)]at hS';exact hS'
  have h0:=inv.x4 Ta R hsplit hnpS q hq hSq n b hf
  have hT1S:HS (R6 S k.g.i) st0 T1=HS S st0 T1:=R9 (fun p hp=> .inl (Vy (ne1 p hp)))
  have hTm:news (R6 S k.g.i) Tm=news S Tm:=P0 (fun p hp=>Vy (ne2 p (by rw[hT2];exact List.mem_append_right _ hp)))
  have push:(∀q∈T2,S q.g.i=true→∀s,q.f≠.post s)→(∀q∈Tm,S q.g.i=true→∀s,q.f≠.post s)∧∀q∈Tm,R6 S k.g.i q.g.i=true→∀s,q.f≠.post s:=by
   intro h
   have hm:∀q∈Tm,q∈T2:=fun q hq=>by rw[hT2];exact List.mem_append_right _ hq
   exact⟨fun q hq=>h q (hm q hq),fun q hq hs=>h q (hm q hq) (by rw[Vy (ne2 q (hm q hq))]at hs;exact hs)⟩
  rw[hR]at h0⊢
  cases hkf:k.f with
  | non=>
    have:HS (R6 S k.g.i) st0 (Tm++k::T1)=HS S st0 (Tm++k::T1):=R9 (fun p hp=>by
     rcases List.mem_append.1 hp with h | h
     ·exact .inl (Vy (ne2 p (by rw[hT2];exact List.mem_append_right _ h)))
     ·rcases List.mem_cons.1 h with rfl | h
      ·exact .inr hkf
      ·exact .inl (Vy (ne1 p h)))
    rw[this]
    exact h0
  | new n1 b1=>
    obtain⟨p1,p2⟩:=push (hnew n1 b1 hkf)
    rw[Ga p1]at h0
    rw[Ga p2,hTm]
    simp only[HS,Zaq,if_true,hnS,Bool.false_eq_true,if_false,hkf,Eff.ap,hT1S]at h0⊢
    obtain⟨nm1,nm2,_,hgood,_,hlater,_⟩:=Zac hT
    have h1:=hgood.Zym.2 n1 b1 hkf
    have h2:=hlater q hq2 n b hf
    rw[Uf]at h0⊢
    simp only[Zh]
    rw[if_neg (by omega)]
    exact h0
  | post s=>
    obtain⟨h1,h2⟩:=hpost s hkf
    obtain⟨p1,p2⟩:=push h1
    rw[Ga p1]at h0
    rw[Ga p2,hTm]
    simp only[HS,Zaq,if_true,hkf,Eff.ap]
    rw[Uf]at h0⊢
    obtain⟨c,hc⟩:=Zyk hSq hf hq2
    rw[h2 n c hc]
    cases hm:Zh (news S Tm) n with
    | none=>rfl
    | some z=>rw[hm]at h0;cases h0
theorem Inv.step {Sz:Nat} {ops:Array Oper} (hcall:Oi D X call) (hT:Tr call nm0 e0 st0 (T2++k::T1) nm e st) (hnm:nm≤st0.nx) (hpw:Zt2 A ((T2++k::T1).map En.g)=true)
  (inv:Inv D X nm0 e0 st0 A (T2++k::T1) N0 w0 S N t w) (hnS:S k.g.i=false) (hrd:∀a,ltA A a k.g.i=true→S a=true) {o:Oper} (ho:ops[k.g.i]? =some o) (hc:Zqc X Sz ops k.g.o o=true) (hsz:Sz≤t.size)
  (b:Frame) (d:List Deferred) (rest:List Nat) (kk:List Item) (cs:List Frame):
  ∃N' t' w',Inv D X nm0 e0 st0 A (T2++k::T1) N0 w0 (R6 S k.g.i) N' t' w'∧t'.size=t.size∧
   Steps X.P (lone (Fr b t d (.inRegion ops (k.g.i::rest)::kk)) cs w) (lone (Fr b t' d (.inRegion ops rest::kk)) cs w'):=by
 obtain⟨nm1,nm2,hT1,hgood,hnm2,hlater,hre⟩:=Zac hT
 obtain⟨hp1,hp2,hpr⟩:=Zkq hpw
 obtain⟨full1,full2⟩:=Zim hT1
 have kinds:=Zab0 hT
 have names:=Zk5 hT
 have names1:=Zk5 hT1
 have ne1:∀p∈T1,p.g.i≠k.g.i:=fun p hp=>(hp1 p hp).ne
 have ne2:∀q∈T2,q.g.i≠k.g.i:=fun q hq=>(hp2 q hq).choose_spec.ne.symm
 have earlier:∀p∈T1,S p.g.i=false→Zxb p.g.o k.g.o∧(p.g.o.isN=true→k.g.o.isR=false∧k.g.o.isW=false)∧(p.g.o.isW=true→(k.g.o.isR=false∨Ztw k.g (T1.map En.g)=true)∧k.g.o.isW=false):=by
  intro p hp hs
  rcases(hp1 p hp).or with h | ⟨h1,h2,h3,_⟩
  ·rw[hrd _ h]at hs;cases hs
  ·exact⟨h1,h2,h3⟩
 have later:∀q∈T2,S q.g.i=true→Zxb k.g.o q.g.o∧(k.g.o.isN=true→q.g.o.isR=false∧q.g.o.isW=false)∧(k.g.o.isW=true→q.g.o.isW=false)∧
   (k.g.o.isR=true→q.g.o.isW=true→k.g.i∈q.g.res):=by
  intro q hq hs
  rcases(hp2 q hq).choose_spec.or with h | ⟨h1,h2,h3,h4⟩
  ·rw[inv.cl _ hs _ h]at hnS;cases hnS
  ·exact⟨h1,h2,fun hw=>(h3 hw).2,h4⟩
 have agree:∀x∈k.g.o.reads,Zl (ES S e0 (T2++k::T1)) x=Zl k.e x:=by
  intro x hx
  rw[Zid (fun q hq hs=>(later q hq hs).1.b x hx)]
  simp only[ES,hnS,Bool.false_eq_true,if_false]
  refine(Zda (S':=fun _=>true) (fun p hp=> ?_)).trans (by rw[full1])
  cases hs:S p.g.i with
  | true=>exact .inl rfl
  | false=>exact .inr ((earlier p hp hs).1.a x hx)
 obtain⟨ag1,ag2⟩:=Zhd agree
 have egeteq:∀x,Zl (ES (R6 S k.g.i) e0 (T2++k::T1)) x=Zl (Vm (ES S e0 (T2++k::T1)) k.g.o.dst k.v) x:=by
  intro x
  rw[M1]
  by_cases hx:k.g.o.dst=some x
  ·rw[if_pos hx,Zid (fun q hq hs=>(later q hq (by rw[Vy (ne2 q hq)]at hs;exact hs)).1.c x hx)]
   simp only[ES,Zaq,if_true]
   rw[M1,if_pos hx]
  ·rw[if_neg hx]
   refine Zda (fun q hq=> ?_)
   rcases List.mem_append.1 hq with h | h
   ·exact .inl (Vy (ne2 q h))
   ·rcases List.mem_cons.1 h with rfl | h
    ·exact .inr hx
    ·exact .inl (Vy (ne1 q h))
 have cl':∀i,R6 S k.g.i i=true→∀a,ltA A a i=true→R6 S k.g.i a=true:=by
  intro i hi a ha
  have:S a=true:=by
   by_cases e:i=k.g.i
   ·subst e;exact hrd a ha
   ·rw[Vy e]at hi;exact inv.cl i hi a ha
  simp only[R6];split <;> first | rfl | exact this
 have unS:∀q∈T2++k::T1,R6 S k.g.i q.g.i=false→S q.g.i=false∧q.g.i≠k.g.i:=by
  intro q _ hs
  have:q.g.i≠k.g.i:=by
   intro e
   rw[e,Zaq]at hs
   cases hs
  rw[Vy this]at hs
  exact⟨hs,this⟩
 have hc':=hc
 simp only[Zqc,bool_and,beq_iff_eq]at hc'
 obtain⟨hdst,hlt,hg,hm⟩:=hc'
 have quiet:k.f= .non→k.g.o.run call (ES S e0 (T2++k::T1)) (HS S st0 (T2++k::T1))=some (Vm (ES S e0 (T2++k::T1)) k.g.o.dst k.v,HS S st0 (T2++k::T1))→
   ∃N' t' w',Inv D X nm0 e0 st0 A (T2++k::T1) N0 w0 (R6 S k.g.i) N' t' w'∧t'.size=t.size∧
    Steps X.P (lone (Fr b t d (.inRegion ops (k.g.i::rest)::kk)) cs w) (lone (Fr b t' d (.inRegion ops rest::kk)) cs w'):=by
  intro hf hrun
  obtain⟨N',t',w',a1,a2,a3,a4,a5,a6,a7⟩:=Zdb hcall hrun hc ho inv.env hsz inv.sr b d rest kk cs
  have hHS:HS (R6 S k.g.i) st0 (T2++k::T1)=HS S st0 (T2++k::T1):=R9 (fun q hq=>by
   rcases List.mem_append.1 hq with h | h
   ·exact .inl (Vy (ne2 q h))
   ·rcases List.mem_cons.1 h with rfl | h
    ·exact .inr hf
    ·exact .inl (Vy (ne1 q h)))
  have hnx:=inv.nx
  refine⟨N',t',w',⟨fun x=>by rw[egeteq];exact a1 x,by rw[hHS];exact a3,by rw[hHS];exact inv.gd.trans a4,by rw[hHS];exact inv.nx,fun n hn=> ?_,fun q hq hs n bb hf'=> ?_,?_,cl'⟩,a2,a7⟩
  ·rw[a6 n (by omega)];exact inv.old n hn
  ·have:=names.2 q hq n bb hf'
   rw[a6 n (by omega)]
   exact inv.un q hq (unS q hq hs).1 n bb hf'
  ·exact Zpx hT inv hnS ne1 ne2 (fun n bb h=>by rw[hf]at h;cases h) (fun s h=>by rw[hf]at h;cases h)
 generalize hv:k.v=v at*
 generalize hf:k.f=f at*
 cases hgood with
 | skip hw=>
   refine quiet rfl ?_
   simp only[MI.run,ag2,hw]
 | p hw hop hrun=>
   refine quiet rfl ?_
   rw[hop]at ag1
   simp only[MI.run,ag2,hw,hop,MO.run]
   rw[PO.congr ag1,hrun]
 | @r p v hw hop hrun=>
   refine quiet rfl ?_
   rw[hop]at ag1
   have hisR:k.g.o.isR=true:=by simp[MI.isR,hop]
   have hrun1:RO.run (AO.ev k.e) (HS S st0 T1).h p=some v:=by
    cases how:Ztw k.g (T1.map En.g)with
    | false=>
      have hT1:HS S st0 T1=k.st:=by
       refine(R9 (S':=fun _=>true) (fun q hq=> ?_)).trans full2
       cases hs:S q.g.i with
       | true=>exact .inl rfl
       | false=>
         right
         obtain⟨_,h2,h3⟩:=earlier q hq hs
         by_cases hn:q.f= .non
         ·exact hn
         ·exfalso
          rcases(kinds q (by simp[hq])).2.2 hn with h | h
          ·rw[(h2 h).1]at hisR;cases hisR
          ·rcases(h3 h).1 with h4 | h4
           ·rw[h4]at hisR;cases hisR
           ·rw[how]at h4;cases h4
      rw[hT1];exact hrun
    | true=>
      cases T1 with
      | nil=>simp[Ztw]at how
      | cons q0 T0=>
        have hS0:S q0.g.i=true:=by
         cases hs:S q0.g.i with
         | true=>rfl
         | false=>
           exfalso
           obtain⟨_,h2,_⟩:=earlier q0 List.mem_cons_self hs
           have hn0:q0.g.o.isN=true:=by
            simp only[List.map_cons,Ztw]at how
            split at how
            ·rename_i h _;simp[MI.isN,h]
            ·cases how
           rw[(h2 hn0).1]at hisR;cases hisR
        simp only[List.map_cons,Ztw]at how
        split at how
        case h_2=>cases how
        rename_i d ty len zero parts c hk0 hq0 hd0
        simp only[bool_and,decide_eq_true_eq,Option.isNone_iff_eq_none]at how
        obtain⟨rfl,hkg,hqg⟩:=how
        rw[hop]at hk0
        cases hk0
        obtain⟨nmA,nmB,hTr0,hgood0,_,_,_⟩:=Zac (T2:=[]) hT1
        have hke:k.e=Vm q0.e q0.g.o.dst q0.v∧k.st=q0.f.ap q0.st:=by
         exact Zabz hT1
        obtain⟨hke1,hke2⟩:=hke
        rw[hke1,hke2]at hrun
        rw[hke1]
        simp only[HS,hS0,if_true]
        generalize q0.f=f0 at*
        generalize q0.v=v0 at*
        cases hgood0 with
        | skip hw0=>rw[hqg]at hw0;cases hw0
        | p _ h _=>rw[hq0]at h;cases h
        | r _ h _=>rw[hq0]at h;cases h
        | w _ h _=>rw[hq0]at h;cases h
        | n _ h hno=>
          rw[hq0]at h
          cases h
          simp only[NO.run]at hno
          split at hno
          ·cases hno
           simp only[Eff.ap,RO.run,AO.ev,M1,hd0,if_true,Qg,Zh]at hrun⊢
           exact hrun
          ·cases hno
   have key:∀(Ta:List En) (R:List En),T2++k::T1=Ta++R→(∀q∈Ta,q∈T2)→(∀q∈Ta,S q.g.i=true→∀s,q.f≠.post s)→RO.run (AO.ev (ES S e0 (T2++k::T1))) (HS S st0 R).h p=some v→
     RO.run (AO.ev (ES S e0 (T2++k::T1))) (HS S st0 (T2++k::T1)).h p=some v:=by
    intro Ta R hs hin hnp hr
    have hp:=Ga (st0:=st0) (R:=R) hnp
    rw[←hs]at hp
    rw[hp]
    refine RO.grow (fun n ob hob=> ?_) hr
    rw[Uf]
    cases hy:Zh (news S Ta) n with
    | none=>exact hob
    | some c=>
      obtain⟨q,hq,h1,h2⟩:=Bm hy
      rw[inv.x4 Ta R hs hnp q hq h1 n c h2]at hob
      cases hob
   have hread:RO.run (AO.ev (ES S e0 (T2++k::T1))) (HS S st0 (T2++k::T1)).h p=some v:=by
    have last:∀(Tz:List En),(∀q∈Tz,S q.g.i=true→∀s,q.f≠.post s)∨∃Ta q Tb s,Tz=Ta++q::Tb∧(∀q∈Ta,S q.g.i=true→∀s,q.f≠.post s)∧S q.g.i=true∧q.f= .post s:=by
     intro Tz
     induction Tz with
     | nil=>exact .inl (fun q hq=>nomatch hq)
     | cons q Tz ih=>
       by_cases hq:S q.g.i=true∧∃s,q.f= .post s
       ·obtain⟨h1,s,h2⟩:=hq
        exact .inr ⟨[],q,Tz,s,rfl,(fun r hr=>nomatch hr),h1,h2⟩
       ·have hq':S q.g.i=true→∀s,q.f≠.post s:=fun h1 s h2=>hq ⟨h1,s,h2⟩
        rcases ih with ih | ⟨Ta,r,Tb,s,h1,h2,h3,h4⟩
        ·exact .inl (fun r hr=>by rcases List.mem_cons.1 hr with rfl | hr;exact hq';exact ih r hr)
        ·refine .inr ⟨q::Ta,r,Tb,s,by rw[h1];rfl,fun z hz=> ?_,h3,h4⟩
         rcases List.mem_cons.1 hz with rfl | hz
         ·exact hq'
         ·exact h2 z hz
    rcases last T2 with hnp | ⟨Ta,q,Tb,s,hT2,hnp,hSq,hqf⟩
    ·refine key T2 (k::T1) rfl (fun q hq=>hq) hnp ?_
     simp only[HS,hnS,Bool.false_eq_true,if_false]
     rw[RO.congr ag1]
     exact hrun1
    ·have hqT2:q∈T2:=by rw[hT2];simp
     have hres:=(later q hqT2 hSq).2.2.2 hisR ((kinds q (by simp[hqT2])).1 s hqf)
     have hTq:T2++k::T1=Ta++q::(Tb++k::T1):=by rw[hT2];simp
     refine key Ta (q::(Tb++k::T1)) hTq (fun z hz=>by rw[hT2];exact List.mem_append_left _ hz) hnp ?_
     simp only[HS,hSq,if_true,hqf,Eff.ap]
     rw[hTq]at hT hpw
     obtain⟨_,_,hTr,_,_,_,hre'⟩:=Zac hT
     obtain⟨_,_,hpr'⟩:=Zkq hpw
     have neb:∀z∈q::Tb,z.g.i≠k.g.i:=fun z hz=>ne2 z (by rw[hT2];exact List.mem_append_right _ hz)
     have hgf:=Zg0 (T1:=T1) neb
     obtain⟨o1,ho1,hREF⟩:=hre' _ hres
     obtain⟨o2,ho2,hREO⟩:=hpr' _ hres
     simp only[List.cons_append,List.map_cons]at hgf ho1 ho2 hREO
     rw[hgf]at ho1 ho2
     cases ho1;cases ho2
     obtain⟨hro1,hro2⟩:=Zkt (T2:=q::Tb) (T1:=T1) neb (by simpa using hREO)
     have hfq:Vm q.e q.g.o.dst q.v=ES (fun _=>true) e0 ((q::Tb)++k::T1):=by
      simp only[List.cons_append,ES,if_true]
      rw[(Zim hTr).1]
     have henv:∀x,(∀z∈q::Tb,z.g.o.dst≠some x)→Zl (Vm q.e q.g.o.dst q.v) x=Zl (Vm k.e k.g.o.dst v) x:=by
      intro x hx
      rw[hfq,Zid (fun z hz _=>hx z hz)]
      simp only[ES,if_true,full1,hv]
     have hreads:∀x∈k.g.o.reads,Zl (Vm q.e q.g.o.dst q.v) x=Zl k.e x:=by
      intro x hx
      rw[henv x (fun z hz=>(hro1 z hz).1 x hx),M1,if_neg (hro2 x hx)]
     obtain⟨bg1,bg2⟩:=Zhd hreads
     obtain⟨p',d',hp',hd',hrr⟩:=hREF (by rw[bg2];exact hw)
     rw[hop]at hp'
     cases hp'
     rw[henv d' (fun z hz=>(hro1 z hz).2 d' hd'),M1,if_pos hd',hqf]at hrr
     rw[hop]at bg1
     rw[RO.congr bg1]at hrr
     rw[RO.congr ag1]
     exact hrr
   simp only[MI.run,ag2,hw,hop,MO.run]
   rw[hread]
 | @n p v bb hw hop hrun=>
   rw[hop]at ag1 hm
   have hisN:k.g.o.isN=true:=by simp[MI.isN,hop]
   have hnp:∀q∈T2,S q.g.i=true→∀s,q.f≠.post s:=by
    intro q hq hs s hqf
    have:=((later q hq hs).2.1 hisN).2
    rw[(kinds q (by simp[hq])).1 s hqf]at this
    cases this
   have hn:=inv.un k (by simp) hnS nm1 bb hf
   rw[←NO.congr ag1]at hrun
   obtain⟨N',u,w',a1,a2,a3,a4,a5⟩:=Zpz hm (Zfh inv.env) (fun _=>rfl) inv.sr.hr hn hrun
   have hwant:=Zgn inv.env hg (by rw[ag2];exact hw)
   have hdef:∀c,o.op≠.defer c:=by
    intro c e'
    rw[e']at hm
    have:=Zi0 (X:=X) (c:=c) (m:= .n p) (by simp)
    rw[Zvo]at hm this
    rw[this]at hm
    cases hm
   have hd:∀q,k.g.o.dst=some q→q<t.size:=by
    intro q hq
    rw[←hdst,hq]at hlt
    have hlt':q<Sz:=by simpa using hlt
    omega
   have hTS:HS (R6 S k.g.i) st0 T1=HS S st0 T1:=R9 (fun p hp=> .inl (Vy (ne1 p hp)))
   have hnews:news (R6 S k.g.i) T2=news S T2:=P0 (fun q hq=>Vy (ne2 q hq))
   have hH:HS S st0 (T2++k::T1)=⟨news S T2++(HS S st0 T1).h,(HS S st0 T1).nx⟩:=by
    rw[Ga hnp]
    simp only[HS,hnS,Bool.false_eq_true,if_false]
   have hH':HS (R6 S k.g.i) st0 (T2++k::T1)=⟨news S T2++(nm1,bb)::(HS S st0 T1).h,(HS S st0 T1).nx⟩:=by
    rw[Ga (fun q hq hs=>hnp q hq (by rw[Vy (ne2 q hq)]at hs;exact hs)),hnews]
    simp only[HS,Zaq,if_true,hf,Eff.ap,hTS]
   have hheq:∀m ob,Zh (HS (R6 S k.g.i) st0 (T2++k::T1)).h m=some ob→Zh ((nm1,bb)::(HS S st0 (T2++k::T1)).h) m=some ob:=by
    intro m ob hob
    rw[hH']at hob
    rw[hH]
    simp only[Zh,Uf]at hob⊢
    by_cases he:nm1=m
    ·rw[if_pos he]at hob⊢
     cases hy:Zh (news S T2) m with
     | none=>rw[hy]at hob;exact hob
     | some c=>
       exfalso
       obtain⟨q,hq,_,hqf⟩:=Bm hy
       have:=hlater q hq m c hqf
       omega
    ·rw[if_neg he]at hob⊢
     exact hob
   have hnx:=inv.nx
   refine⟨N',B4 t k.g.o.dst u,w',⟨fun x=> ?_,⟨a3.weaken hheq,fun n hn'=> ?_⟩,inv.gd.trans (a4.sub hheq),?_,fun n hn'=> ?_,fun q hq hs n b' hf'=> ?_,?_,cl'⟩,Xe _ _ _,
    by rw[hdst];exact .one (Mr ho hwant hdef a1 rfl)⟩
   ·rw[egeteq]
    exact((inv.env.mono a4.le).put hd a2) x
   ·rw[hH']at hn'
    rw[hH]at hnx
    simp only at hn' hnx
    rw[a5 n (by omega)]
    exact inv.sr.fresh n (by rw[hH];exact hn')
   ·rw[hH'];rw[hH]at hnx;exact hnx
   ·rw[a5 n (by omega)];exact inv.old n hn'
   ·obtain⟨u1,u2⟩:=unS q hq hs
    rw[a5 n ?_]
    ·exact inv.un q hq u1 n b' hf'
    ·rcases List.mem_append.1 hq with h | h
     ·have:=hlater q h n b' hf'
      omega
     ·rcases List.mem_cons.1 h with rfl | h
      ·exact absurd rfl u2
      ·have:=names1.2 q h n b' hf'
       omega
   ·exact Zpx hT inv hnS ne1 ne2 (fun _ _ _=>hnp) (fun s h=>by rw[hf]at h;cases h)
 | @w p v s hw hop hrun=>
   have hisW:k.g.o.isW=true:=by simp[MI.isW,hop]
   have hnp:∀q∈T2,S q.g.i=true→∀s,q.f≠.post s:=by
    intro q hq hs s hqf
    have:=(later q hq hs).2.2.1 hisW
    rw[(kinds q (by simp[hq])).1 s hqf]at this
    cases this
   have hT1:HS S st0 T1=k.st:=by
    refine(R9 (S':=fun _=>true) (fun q hq=> ?_)).trans full2
    cases hs:S q.g.i with
    | true=>exact .inl rfl
    | false=>
      right
      obtain⟨_,h2,h3⟩:=earlier q hq hs
      by_cases hn:q.f= .non
      ·exact hn
      ·exfalso
       rcases(kinds q (by simp[hq])).2.2 hn with h | h
       ·rw[(h2 h).2]at hisW;cases hisW
       ·rw[(h3 h).2]at hisW;cases hisW
   have hH:HS S st0 (T2++k::T1)=⟨news S T2++k.st.h,k.st.nx⟩:=by
    rw[Ga hnp]
    simp only[HS,hnS,Bool.false_eq_true,if_false,hT1]
   have hnews:news (R6 S k.g.i) T2=news S T2:=P0 (fun q hq=>Vy (ne2 q hq))
   have hH':HS (R6 S k.g.i) st0 (T2++k::T1)=⟨news S T2++s.h,s.nx⟩:=by
    rw[Ga (fun q hq hs=>hnp q hq (by rw[Vy (ne2 q hq)]at hs;exact hs)),hnews]
    simp only[HS,Zaq,if_true,hf,Eff.ap]
   have hY:∀n ob,Zh (news S T2) n=some ob→Zh k.st.h n=none:=by
    intro n ob hob
    obtain⟨q,hq,h1,h2⟩:=Bm hob
    have:=inv.x4 T2 (k::T1) rfl hnp q hq h1 n ob h2
    simp only[HS,hnS,Bool.false_eq_true,if_false,hT1]at this
    exact this
   have hsub:∀n ob,Zh k.st.h n=some ob→Zh (news S T2++k.st.h) n=some ob:=by
    intro n ob hob
    rw[Uf]
    cases hy:Zh (news S T2) n with
    | none=>exact hob
    | some c=>rw[hY n c hy]at hob;cases hob
   have hsr:=inv.sr
   have hgd:=inv.gd
   have hnx:=inv.nx
   rw[hH]at hsr hgd hnx
   have hrun':k.g.o.run call (ES S e0 (T2++k::T1)) k.st=some (Vm (ES S e0 (T2++k::T1)) k.g.o.dst v,s):=by
    rw[hop]at ag1
    simp only[MI.run,ag2,hw,hop,MO.run]
    rw[WO.congr ag1,hrun]
   obtain⟨N',t',w',a1,a2,a3,a4,a5,a6,a7⟩:=Zdb hcall hrun' hc ho inv.env hsz ⟨hsr.hr.weaken hsub,hsr.fresh⟩ b d rest kk cs
   obtain⟨r1,r2,r3⟩:=Zahc hsr.hr a3.hr a4 (fun n ob hob=>by
    obtain⟨q,hq,h1,h2⟩:=Bm hob
    exact Zaeu hT q (by simp[hq]) n ob h2) hY
   simp only at hnx
   refine⟨N',t',w',⟨fun x=>by rw[egeteq];exact a1 x,by rw[hH'];exact⟨r1,a3.fresh⟩,by rw[hH'];exact hgd.trans r2,by rw[hH'];simp only;omega,fun n hn=> ?_,fun q hq hs n bb hf'=> ?_,?_,cl'⟩,a2,a7⟩
   ·rw[a6 n (by omega)];exact inv.old n hn
   ·have:=names.2 q hq n bb hf'
    rw[a6 n (by omega)]
    exact inv.un q hq (unS q hq hs).1 n bb hf'
   ·refine Zpx hT inv hnS ne1 ne2 (fun _ _ _=>hnp) (fun s' h=> ?_)
    rw[hf]at h
    cases h
    exact⟨hnp,r3⟩
end
end Go.Ev

/- Regions whose order is drawn: whatever order is drawn, the region does what the evaluator does. -/
namespace Go.Ev
open Go
variable {X : Cx} {N N' N'' : Nu} {D : Mc}
variable {call : Qx} {nm0 nm : Nat} {e0 e : Env} {st0 st : St} {A : MT} {T : List En} {N0 : Nu} {w0 w : World} {S : Nat → Bool} {t : Array Value}
theorem filter_lt {p q:Nat→Bool}:∀{l:List Nat},(∀x∈l,q x=true→p x=true)→(∃x∈l,p x=true∧q x=false)→(l.filter q).length<(l.filter p).length
 | [],_,h=>by obtain⟨x,hx,_⟩:=h;cases hx
 | a::l,h,hx=>by
   have hle:∀{l:List Nat},(∀x∈l,q x=true→p x=true)→(l.filter q).length≤(l.filter p).length:=by
    intro l
    induction l with
    | nil=>intro _;exact Nat.le_refl _
    | cons a l ih=>
      intro h
      have:=ih (fun x hx=>h x (List.mem_cons_of_mem _ hx))
      have ha:=h a List.mem_cons_self
      simp only[List.filter_cons]
      split
      ·rename_i hq
       rw[if_pos (ha hq)]
       simp only[List.length_cons];omega
      ·split
       ·simp only[List.length_cons];omega
       ·exact this
   obtain⟨x,hx,h1,h2⟩:=hx
   rcases List.mem_cons.1 hx with rfl | hx
   ·simp only[List.filter_cons,h1,h2,if_true,Bool.false_eq_true,if_false,List.length_cons]
    exact Nat.lt_succ_of_le (hle (fun y hy=>h y (List.mem_cons_of_mem _ hy)))
   ·have ih:=filter_lt (fun y hy=>h y (List.mem_cons_of_mem _ hy)) ⟨x,hx,h1,h2⟩
    have ha:=h a List.mem_cons_self
    simp only[List.filter_cons]
    split
    ·rename_i hq
     rw[if_pos (ha hq)]
     simp only[List.length_cons];omega
    ·split
     ·simp only[List.length_cons];omega
     ·exact ih
def cnt (ops:Array Oper) (listed:Array Bool):Nat:=((List.range ops.size).filter fun i=> !listed.getD i true).length
def Zaw (listed:Array Bool):Nat→Bool:=fun i=>listed.getD i false
theorem Zn9 {listed:Array Bool} {i:Nat} (h:i<listed.size) (a b:Bool):listed.getD i a=listed.getD i b:=by
 simp[Array.getD,h]
theorem Zxi {listed:Array Bool} {j:Nat} (h:j<listed.size):Zaw (listed.setIfInBounds j true)=R6 (Zaw listed) j:=by
 funext i
 simp only[Zaw,R6,Array.getD_eq_getD_getElem?,Array.getElem?_setIfInBounds]
 by_cases e:i=j
 ·subst e;simp[h]
 ·rw[if_neg e,if_neg (fun h=>e h.symm)]
theorem Zt5 {md:Region.Mode} {ops:Array Oper} {listed:Array Bool} {j:Nat} (h:j∈Region.ready md ops listed):
  j<ops.size∧listed.getD j true=false∧∃o,ops[j]? =some o∧∀e∈o.after.toList,Region.binds md e=true→listed.getD e.on false=true:=by
 unfold Region.ready at h
 simp only[List.mem_filter,List.mem_range,bool_and,Bool.not_eq_true']at h
 obtain⟨h1,h2,h3⟩:=h
 refine⟨h1,h2,?_⟩
 cases ho:ops[j]? with
 | none=>rw[ho]at h3;cases h3
 | some o=>
   rw[ho]at h3
   refine⟨o,rfl,fun e he hb=> ?_⟩
   simp only[Option.map_some,Option.getD_some,Array.all_eq_true_iff_forall_mem,Bool.or_eq_true,Bool.not_eq_true']at h3
   rcases h3 e (by simpa using he)with h | h
   ·rw[hb]at h;cases h
   ·exact h
theorem Zy0 {md:Region.Mode} {ops:Array Oper} {listed:Array Bool} {j:Nat} {o:Oper} (h1:j<ops.size) (h2:listed.getD j true=false) (ho:ops[j]? =some o)
  (h3:∀e∈o.after.toList,Region.binds md e=true→listed.getD e.on false=true):j∈Region.ready md ops listed:=by
 unfold Region.ready
 simp only[List.mem_filter,List.mem_range,bool_and,Bool.not_eq_true']
 refine⟨h1,h2,?_⟩
 rw[ho]
 simp only[Option.map_some,Option.getD_some,Array.all_eq_true_iff_forall_mem,Bool.or_eq_true,Bool.not_eq_true']
 intro e he
 cases hb:Region.binds md e with
 | false=>exact .inl rfl
 | true=>exact .inr (h3 e (by simpa using he) hb)
theorem go_sound {Sz:Nat} {ops:Array Oper} (hcall:Oi D X call) (hT:Tr call nm0 e0 st0 T nm e st) (hnm:nm≤st0.nx) (hpw:Zt2 A (T.map En.g)=true)
  (hcover:∀i,i<ops.size→∃k∈T,k.g.i=i) (hchk:∀k∈T,∃o,ops[k.g.i]? =some o∧Zqc X Sz ops k.g.o o=true) (hon:onOK ops=true) (hanc:Zxn A ops=true)
  (b:Frame) (d:List Deferred) (kk:List Item) (cs:List Frame):
  ∀(fuel tt:Nat) (listed:Array Bool) (N:Nu) (t:Array Value) (w:World),listed.size=ops.size→Inv D X nm0 e0 st0 A T N0 w0 (Zaw listed) N t w→cnt ops listed≤fuel→Sz≤t.size→
   ∃N' t' w' S',(∀k∈T,S' k.g.i=true)∧Inv D X nm0 e0 st0 A T N0 w0 S' N' t' w'∧t'.size=t.size∧
    Steps X.P (lone (Fr b t d (.inRegion ops (Region.linearise.go .any ops fuel tt listed [])::kk)) cs w) (lone (Fr b t' d (.inRegion ops []::kk)) cs w'):=by
 have lt_of:∀k∈T,k.g.i<ops.size:=fun k hk=>by
  obtain⟨o,ho,_⟩:=hchk k hk
  exact(Array.getElem?_eq_some_iff.1 ho).1
 intro fuel
 induction fuel with
 | zero=>
   intro tt listed N t w hl inv hcnt hsz
   refine⟨N,t,w,Zaw listed,fun k hk=> ?_,inv,rfl,.refl _ _⟩
   have hlt:=lt_of k hk
   cases hq:Zaw listed k.g.i with
   | true=>rfl
   | false=>
     exfalso
     have:k.g.i∈(List.range ops.size).filter fun i=> !listed.getD i true:=by
      simp only[List.mem_filter,List.mem_range,Bool.not_eq_true']
      exact⟨hlt,by rw[Zn9 (by omega) true false];exact hq⟩
     have:=List.length_pos_of_mem this
     simp only[cnt]at hcnt
     omega
 | succ fuel ih=>
   intro tt listed N t w hl inv hcnt hsz
   simp only[Region.linearise.go]
   change∃N' t' w' S',_∧_∧_∧Steps X.P (lone (Fr b t d (.inRegion ops (match (Region.ready .any ops listed)[tt % (Region.ready .any ops listed).length]? with
    | some i=>Region.linearise.go .any ops fuel (tt / (Region.ready .any ops listed).length) (listed.setIfInBounds i true) [i]
    | none=>[].reverse)::kk)) cs w) _
   cases hi:(Region.ready .any ops listed)[tt % (Region.ready .any ops listed).length]? with
   | none=>
     have hnil:Region.ready .any ops listed=[]:=by
      cases hr:Region.ready .any ops listed with
      | nil=>rfl
      | cons x xs=>
        rw[hr]at hi
        have hlt:tt % (x::xs).length<(x::xs).length:=Nat.mod_lt _ (by simp)
        simp at hi
        simp at hlt
        omega
     have all:∀i,i<ops.size→Zaw listed i=true:=by
      intro i
      induction i using Nat.strongRecOn with
      | ind i ih'=>
        intro hlt
        cases hq:Zaw listed i with
        | true=>rfl
        | false=>
          exfalso
          have ho:ops[i]? =some ops[i]:=Array.getElem?_eq_getElem hlt
          have:i∈Region.ready .any ops listed:=Zy0 hlt (by rw[Zn9 (by omega) true false];exact hq) ho (fun e he hb=>by
           have h1:=hon
           simp only[onOK,List.all_eq_true,List.mem_range]at h1
           have h2:=h1 i hlt
           rw[ho]at h2
           simp only[List.all_eq_true,Bool.or_eq_true,Bool.not_eq_true',decide_eq_true_eq]at h2
           rcases h2 e he with h3 | h3
           ·rw[hb]at h3;cases h3
           ·exact ih' e.on h3 (by omega))
          rw[hnil]at this
          cases this
     refine⟨N,t,w,Zaw listed,fun k hk=>all _ (lt_of k hk),inv,rfl,?_⟩
     exact .refl _ _
   | some j=>
     simp only[]
     rw[linearise_go_acc,List.reverse_singleton,List.singleton_append]
     obtain⟨r1,r2,o,ho,r3⟩:=Zt5 (List.mem_of_getElem? hi)
     obtain⟨k,hk,rfl⟩:=hcover j r1
     obtain⟨o',ho',hc⟩:=hchk k hk
     rw[ho]at ho'
     cases ho'
     obtain⟨T2,T1,rfl⟩:=List.append_of_mem hk
     have hrd:∀a,ltA A a k.g.i=true→Zaw listed a=true:=by
      intro a ha
      have h1:=hanc
      simp only[Zxn,List.all_eq_true,List.mem_range]at h1
      have h2:=h1 k.g.i r1
      rw[ho]at h2
      simp only[decide_eq_true_eq]at h2
      have ha':(Zts A.get o).testBit a=true:=by rw[←h2];exact ha
      obtain⟨e,he,hb,h3⟩:=Zcy ha'
      have h4:=r3 e he hb
      rcases h3 with h3 | h3
      ·rw[←h3];exact h4
      ·exact inv.cl e.on h4 a h3
     obtain⟨N1,t1,w1,i1,i2,i3⟩:=inv.step hcall hT hnm hpw (by rw[Zn9 (by omega) true false]at r2;exact r2) hrd ho hc hsz b d
      (Region.linearise.go .any ops fuel (tt / (Region.ready .any ops listed).length) (listed.setIfInBounds k.g.i true) []) kk cs
     rw[←Zxi (by omega)]at i1
     have hdec:cnt ops (listed.setIfInBounds k.g.i true)<cnt ops listed:=by
      refine filter_lt (fun x hx hq=> ?_) ⟨k.g.i,List.mem_range.2 r1,by simp[r2],?_⟩
      ·simp only[Bool.not_eq_true']at hq⊢
       have hx':=List.mem_range.1 hx
       simp only[Array.getD_eq_getD_getElem?,Array.getElem?_setIfInBounds]at hq⊢
       split at hq
       ·split at hq <;> simp at hq
       ·exact hq
      ·simp only[Bool.not_eq_false',Array.getD_eq_getD_getElem?,Array.getElem?_setIfInBounds,if_true]
       rw[if_pos (by omega)]
       rfl
     obtain⟨N2,t2,w2,S2,j1,j2,j3,j4⟩:=ih (tt / (Region.ready .any ops listed).length) (listed.setIfInBounds k.g.i true) N1 t1 w1 (by simp[hl]) i1 (by omega) (by omega)
     exact⟨N2,t2,w2,S2,j1,j2,by omega,i3.trans j4⟩
theorem Zadx (hmix:X.P.follows .mixedOrders=true):Zso Lt X:=by
 intro call hcall Sz ops L e0 st e' st' hrun hchk N b t d k cs w tt he hs hr
 unfold Lt at hchk
 split at hchk
 ·cases hchk
 ·rename_i gs hgs
  simp only[bool_and,decide_eq_true_eq,List.all_eq_true,List.mem_range,List.any_eq_true]at hchk
  obtain⟨hlen,hcov,hchkI,hon,hanc,hpw⟩:=hchk
  obtain⟨T,nm,hT,hmap,hnm⟩:=Zc5 (call:=call) (nm0:=st.nx) (e0:=e0) (st0:=⟨st.h,st.nx+L.length⟩) L [] st.nx e0 e' ⟨st.h,st.nx+L.length⟩ st' [] gs hrun .nil (fun j=>rfl) hgs
  have hHS0:∀T:List En,HS (Zaw (Array.replicate ops.size false)) ⟨st.h,st.nx+L.length⟩ T=⟨st.h,st.nx+L.length⟩:=by
   intro T
   induction T with
   | nil=>rfl
   | cons q T ih=>
     simp only[HS,ih]
     rw[if_neg]
     simp[Zaw,Array.getD]
  have hS0:∀i,Zaw (Array.replicate ops.size false) i=false:=fun i=>by simp[Zaw,Array.getD]
  have hES0:∀T:List En,ES (Zaw (Array.replicate ops.size false)) e0 T=e0:=by
   intro T
   induction T with
   | nil=>rfl
   | cons q T ih=>simp only[ES,ih,hS0,Bool.false_eq_true,if_false]
  have inv0:Inv Lt X st.nx e0 ⟨st.h,st.nx+L.length⟩ (mkA ops.toList) T N w (Zaw (Array.replicate ops.size false)) N t w:=by
   refine⟨by rw[hES0];exact he,by rw[hHS0];exact⟨hr.hr,fun n hn=>hr.fresh n (by simp only at hn;omega)⟩,by rw[hHS0];exact .refl _ _ _,by rw[hHS0];exact Nat.le_refl _,fun _ _=>rfl,
    fun q hq _ n bb hf=>hr.fresh n (by have:=(Zk5 hT).2 q hq n bb hf;omega),fun _ _ _ _ q _ hq=> ?_,fun i hi=> ?_⟩
   ·rw[hS0]at hq;cases hq
   ·rw[hS0]at hi;cases hi
  obtain⟨N',t',w',S',a1,a2,a3,a4⟩:=go_sound (A:=mkA ops.toList) (N0:=N) (w0:=w) hcall hT hnm (by rw[hmap];exact hpw)
   (fun i hi=>by
     obtain⟨g,hg,hgi⟩:=hcov i hi
     rw[←hmap]at hg
     obtain⟨q,hq,rfl⟩:=List.mem_map.1 hg
     exact⟨q,hq,hgi⟩)
   (fun q hq=>by
     have:=hchkI q.g (by rw[←hmap];exact List.mem_map_of_mem hq)
     split at this
     ·rename_i o ho;exact⟨o,ho,this⟩
     ·cases this) hon hanc b d k cs ops.size tt (Array.replicate ops.size false) N t w (by simp) inv0 (by
     simp only[cnt]
     have:=List.length_filter_le (fun i=> !(Array.replicate ops.size false).getD i true) (List.range ops.size)
     simpa using this) hs
  have hES:∀x,Zl (ES S' e0 T) x=Zl e' x:=fun x=>by
   rw[Zda (S':=fun _=>true) (fun q hq=> .inl (a1 q hq)),(Zim hT).1]
  have hHS:HS S' ⟨st.h,st.nx+L.length⟩ T=st':=by
   rw[R9 (S':=fun _=>true) (fun q hq=> .inl (a1 q hq)),(Zim hT).2]
  have hsr:=a2.sr
  have hgd:=a2.gd
  have hnx:=a2.nx
  rw[hHS]at hsr hgd hnx
  refine⟨N',t',w',fun x=>by rw[←hES];exact a2.env x,a3,hsr,hgd,by simp only at hnx;omega,a2.old,?_⟩
  simp only[Region.schedule,hmix,Bool.true_or,if_true]
  exact a4
end Go.Ev

/- The functions of a program: their numbers, their abstract bodies, and the check that these belong together. -/
namespace Go.Ev
open Go
inductive NT where
 | nil
 | node (l:NT) (k v:Nat) (r:NT)
def NT.get:NT→Nat→Nat
 | .nil,_=>999999
 | .node l k v r,n=>if n=k then v else if n<k then l.get n else r.get n
inductive FT where
 | nil
 | node (l:FT) (k:Nat) (v:Qa) (r:FT)
def FT.get:FT→Nat→Option Qa
 | .nil,_=>none
 | .node l k v r,n=>if n=k then some v else if n<k then l.get n else r.get n
def FT.All (P:Nat→Qa→Prop):FT→Prop
 | .nil=>True
 | .node l k v r=>l.All P∧P k v∧r.All P
theorem FT.Zdy {P:Nat→Qa→Prop}:∀{t:FT} {n:Nat} {m:Qa},t.All P→t.get n=some m→P n m
 | .nil,_,_,_,h=>by cases h
 | .node l k v r,n,m,⟨h1,h2,h3⟩,h=>by
   simp only[FT.get]at h
   split at h
   ·rename_i e;subst e;cases h;exact h2
   ·split at h
    ·exact FT.Zdy h1 h
    ·exact FT.Zdy h3 h
def Qf (X:Cx) (f:Nat) (mf:Qa):Prop:=∃fn c S,X.P.funcs[X.φ f]? =some fn∧fn.body=some c∧(fn.name == "runtime.NumGoroutine")=false∧S≤fn.ntmps∧
 Dd Lt X S mf.body c=true∧Dy X mf.results fn.results.toList=true
def Zach (X:Cx) (mf:Qa) (fn:Func):Bool:=
 match fn.body with
 | some c=> !(fn.name == "runtime.NumGoroutine") && (Dd Lt X fn.ntmps mf.body c && Dy X mf.results fn.results.toList)
 | none=>false
theorem Zj {X:Cx} {f i:Nat} {mf:Qa} {fn:Func} (hφ:X.φ f=i) (h:X.P.funcs[i]? =some fn) (hc:Zach X mf fn=true):Qf X f mf:=by
 unfold Zach at hc
 split at hc
 ·rename_i c hb
  simp only[bool_and,Bool.not_eq_true']at hc
  exact⟨fn,c,fn.ntmps,by rw[hφ];exact h,hb,hc.1,Nat.le_refl _,hc.2.1,hc.2.2⟩
 ·cases hc
theorem Zzf {X:Cx} {t:FT} {en:Nat→Option Entry} (h:t.All (Qf X)) (he:∀f F,en f=some F→Vp Lt X f F):Zdd Lt X ⟨t.get,en⟩:=
 ⟨fun _ _ _ hf=>FT.Zdy h hf,he⟩
end Go.Ev

/- A law: its call, from the evaluator's word. -/
namespace Go.Ev
open Go Go.RowKit
variable {X : Cx} {N N' N'' : Nu} {D : Mc}
theorem Zte {ex:ExF} {T:Tab} (hx:Ok D X ex) (hT:Zdd D X T) {f:Nat} {mf:Qa} (hen:T.en f=none) (hmf:T.fn f=some mf) {args:List AV} {st st1:St} {x:Ex} {e':Env} {b:Bool}
  (hex:ex mf.body (V0 0 args) st=some (x,e',st1)) (hxr:x= .norm∨x= .ret) (hv:Zt st1.h e' mf.results=some (.bool b)) {w:World} {us:List Value} (hr:SR D X N st w)
  (ha:VRs X N args us) (hown:∀k,¬Own N st.h k):
  Calls X.P (X.φ f) us.toArray w fun e w'=>e= .returned (.bool b)∧Below w.heap.size w w':=by
 intro cs
 obtain⟨fn,code,S,hf,hbody,hname,hS,hchk,hres⟩:=hT.fn f mf hen hmf
 let b0:Frame:={(default:Frame)with fn:=X.φ f,kind:= .normal}
 let t0:Array Value:=us.toArray++Array.replicate (fn.ntmps - us.toArray.size) undef
 have henter:Frame.enter X.P (X.φ f) us.toArray .normal=Fr b0 t0 [] [.code code]:=by
  simp[Frame.enter,Fr,hf,hbody,b0,t0];rfl
 have hsize:S≤t0.size:=by simp[t0];omega
 obtain⟨N1,t1,d1,w1,a1,a2,a3,a4,a5,a6,a7,_,a9⟩:=hx mf.body code S (V0 0 args) st x e' st1 hex hchk N b0 t0 [] [] cs w w.heap.size (Kr.args ha _) hsize hr ⟨[],rfl,List.nodup_nil,by simp⟩ (Nat.le_refl _) (.inl rfl)
 have a9:=a9 _ rfl
 obtain⟨rs,rfl,hrn,hrd⟩:=a7
 obtain⟨todo,hret⟩:∃todo,Steps X.P (lone (Fr b0 t0 [] [.code code]) cs w) (lone {Fr b0 t1 (rs.map fun r=>{target:= .collected r,args:= #[]}) todo with mode:= .returning} cs w1):=by
  rcases hxr with rfl | rfl
  ·exact⟨[],Steps.trans a9 (.one (Zx2 rfl))⟩
  ·obtain⟨k2,M',hk2,hk3⟩:=a9
   exact⟨_,Steps.trans hk2 (.one (hk3.trans (Zx4 rfl)))⟩
 obtain⟨w2,b1,b2,b3,b4,b5,b6,b7⟩:=P6 (b:=b0) (t:=t1) (todo:=todo) (cs:=cs) (B:=w.heap.size) rs w1 a3.hr hrn hrd
 obtain⟨u,r1,r2⟩:=Zca b2 a1 hres hv
 cases r2
 refine⟨.returned (.bool b),w2,{Fr b0 t1 [] todo with mode:= .returning},⟨rfl,b5.trans a4.os,b4.trans a4.tape,b6.trans a4.output,by rw[b3];exact a4.size,fun k hk=>by rw[b7 k hk];exact a4.frame k hk (hown k)⟩,?_,rfl,rfl,rfl,rfl,fn,hf,r1⟩
 rw[henter]
 exact Steps.trans hret b1
end Go.Ev

/- The evaluator without fuel: what it comes to, and its equations. -/
namespace Go.Ev
open Go
def ELe (f g:ExF):Prop:=∀c e st r,f c e st=some r→g c e st=some r
def CLe (f g:Qx):Prop:=∀a args st r,f a args st=some r→g a args st=some r
theorem WO.mono {f g:Qx} (h:CLe f g) {ev:AO→AV} {st:St} {o:WO} {r:AV×St} (hr:WO.run f ev st o=some r):WO.run g ev st o=some r:=by
 cases o with
 | call x xs=>exact h _ _ _ _ hr
 | _=>exact hr
theorem MO.mono {f g:Qx} (h:CLe f g) {ev:AO→AV} {st:St} {o:MO} {r:AV×St} (hr:MO.run f ev st o=some r):MO.run g ev st o=some r:=by
 cases o with
 | w p=>exact WO.mono h hr
 | _=>exact hr
theorem MI.mono {f g:Qx} (h:CLe f g) {o:MI} {e:Env} {st:St} {r:Env×St} (hr:o.run f e st=some r):o.run g e st=some r:=by
 unfold MI.run at hr⊢
 split at hr <;> rename_i hw
 ·split at hr <;> rename_i h1
  ·rw[MO.mono h h1];exact hr
  ·cases hr
 ·exact hr
 ·cases hr
theorem Wq {f g:Qx} (h:CLe f g):∀{l:List MI} {e:Env} {st:St} {r:Env×St},Ko f l e st=some r→Ko g l e st=some r
 | [],_,_,_,hr=>hr
 | o::l,e,st,r,hr=>by
   simp only[Ko]at hr⊢
   split at hr <;> rename_i h1
   ·rw[MI.mono h h1];exact Wq h hr
   ·cases hr
theorem Zm4 {f g:Qx} (h:CLe f g) {nm:Nat} {o:MI} {e:Env} {st:St} {r:Env×St×Nat} (hr:G9 f nm o e st=some r):G9 g nm o e st=some r:=by
 unfold G9 at hr⊢
 split at hr <;> rename_i hw
 ·split at hr
  ·exact hr
  ·split at hr <;> rename_i h1
   ·rw[MO.mono h h1];exact hr
   ·cases hr
 ·exact hr
 ·cases hr
theorem Oc {f g:Qx} (h:CLe f g):∀{l:List RI} {d:List (Nat×MI)} {nm:Nat} {e:Env} {st:St} {r:Env×St},G2 f d nm l e st=some r→G2 g d nm l e st=some r
 | [],_,_,_,_,_,hr=>hr
 | .op i o::l,d,nm,e,st,r,hr=>by
   simp only[G2]at hr⊢
   split at hr <;> rename_i h1
   ·rw[Zm4 h h1];exact Oc h hr
   ·cases hr
 | .re i::l,d,nm,e,st,r,hr=>by
   simp only[G2]at hr⊢
   split at hr
   ·rename_i h1;rw[if_pos h1];exact Oc h hr
   ·cases hr
theorem Zny {T:Tab} {f g:ExF} (h:ELe f g) {k:Nat} {args:List AV} {st:St} {r:AV×St} (hr:W1 T f k args st=some r):W1 T g k args st=some r:=by
 unfold W1 at hr⊢
 split at hr
 ·exact hr
 ·split at hr
  ·cases hr
  ·split at hr
   ·rename_i hl
    rw[if_pos hl]
    split at hr <;> rename_i h1
    ·rw[h _ _ _ _ h1];exact hr
    ·rw[h _ _ _ _ h1];exact hr
    ·cases hr
   ·cases hr
theorem Zdw {f g:ExF} (h:ELe f g) {l:Nat} {args:List AV} {st:St} {r:AV×St} (hr:N8 f l args st=some r):N8 g l args st=some r:=by
 unfold N8 at hr⊢
 split at hr
 ·split at hr
  ·rename_i hl
   rw[if_pos hl]
   split at hr <;> rename_i h1
   ·rw[h _ _ _ _ h1]
    simp only
    split at hr <;> rename_i h2
    ·split at hr <;> rename_i h3
     ·rw[h _ _ _ _ h3];exact hr
     ·cases hr
    ·cases hr
   ·cases hr
  ·cases hr
 ·cases hr
theorem Zgw {T:Tab} {f g:ExF} (h:ELe f g):CLe (Jb T f) (Jb T g):=by
 intro a args st r hr
 unfold Jb at hr⊢
 split at hr
 ·exact Zny h hr
 ·exact Zdw h hr
 ·cases hr
theorem E3 {f g:Qx} (hf:CLe f g) {ex ey:ExF} (hx:ELe ex ey) {nx more pair:Nat} {post:List MI} {ks:List Nat} {body:Zv} {e:Env} {st:St}:
  ∀{es:List (AV×AV)} {u:Unit},rounds f ex nx more pair post ks body e st es=some u→rounds g ey nx more pair post ks body e st es=some u
 | [],_,h=>h
 | (k,v)::r,u,h=>by
   simp only[rounds]at h⊢
   split at h
   case h_2=>cases h
   rename_i h1
   rw[Wq hf h1]
   simp only
   split at h
   case h_2=>cases h
   rename_i h2
   rw[hx _ _ _ _ h2]
   simp only
   split at h
   case isFalse=>cases h
   rename_i h3
   rw[if_pos h3]
   exact E3 hf hx h
theorem Zgx {T:Tab} {f g:ExF} (h:ELe f g):ELe (Zz T f) (Zz T g):=by
 have hc:=Zgw (T:=T) h
 intro c e st r hr
 cases c with
 | skip=>exact hr
 | Ze l=>
   simp only[Zz]at hr⊢
   split at hr <;> rename_i h1
   ·rw[Wq hc h1];exact hr
   ·cases hr
 | Kv l=>
   simp only[Zz]at hr⊢
   split at hr <;> rename_i h1
   ·rw[Oc hc h1];exact hr
   ·cases hr
 | seq a b=>
   by_cases hk:∃l,a= .Zd l
   ·obtain⟨l,rfl⟩:=hk
    simp only[Zz]at hr⊢
    exact h _ _ _ _ hr
   ·have e1:∀ex:ExF,Zz T ex (.seq a b) e st=(match ex a e st with | some (.norm,e,st)=>ex b e st | r=>r):=by
     intro ex
     cases a <;> first | rfl | exact absurd ⟨_,rfl⟩ hk
    rw[e1]at hr⊢
    split at hr <;> rename_i h1
    ·rw[h _ _ _ _ h1];exact h _ _ _ _ hr
    ·rw[h _ _ _ _ hr]
     split
     ·rename_i e2 st2 heq
      exact absurd hr (by rw[heq];exact h1 e2 st2)
     ·rfl
 | cond x a b=>
   simp only[Zz]at hr⊢
   split at hr
   ·exact h _ _ _ _ hr
   ·exact h _ _ _ _ hr
   ·cases hr
 | block i b=>
   simp only[Zz]at hr⊢
   split at hr <;> rename_i h1
   ·rw[h _ _ _ _ h1];exact hr
   ·rw[h _ _ _ _ hr]
    split
    ·rename_i i2 e2 st2 heq
     exact absurd hr (by rw[heq];exact h1 i2 e2 st2)
    ·rfl
 | loop b=>
   simp only[Zz]at hr⊢
   split at hr <;> rename_i h1
   ·rw[h _ _ _ _ h1];exact h _ _ _ _ hr
   ·rw[h _ _ _ _ hr]
    split
    ·rename_i e2 st2 heq
     exact absurd hr (by rw[heq];exact h1 e2 st2)
    ·rfl
 | scope b=>simp only[Zz]at hr⊢;exact h _ _ _ _ hr
 | rangeFunc f ps a b=>
   simp only[Zz]at hr⊢
   split at hr <;> rename_i h1
   ·rw[hc _ _ _ _ h1];exact hr
   ·cases hr
 | exit i=>exact hr
 | ret=>exact hr
 | Zd l=>exact hr
 | rangeMap pre m d nx more pair post ks out next body=>
   simp only[Zz]at hr⊢
   split at hr
   case h_2=>cases hr
   rename_i h1
   simp only[Wq hc h1]
   split at hr
   case h_2=>cases hr
   rename_i h2
   split at hr
   case h_2=>cases hr
   rename_i h3
   split at hr
   case h_2=>cases hr
   rename_i h4
   rw[E3 hc h h4]
   exact hr
 | stuck=>exact hr
theorem T6 (T:Tab):∀n,ELe (exec T n) (exec T (n+1))
 | 0=>fun _ _ _ _ h=>by cases h
 | n+1=>Zgx (T6 T n)
theorem M4 (T:Tab) {n m:Nat} (h:n≤m):ELe (exec T n) (exec T m):=by
 induction h with
 | refl=>exact fun _ _ _ _ h=>h
 | step _ ih=>exact fun c e st r hr=>T6 T _ c e st r (ih c e st r hr)
open Classical in
noncomputable def run (T:Tab) (c:Zv) (e:Env) (st:St):Option (Ex×Env×St):=
 if h:∃n r,exec T n c e st=some r then exec T h.choose c e st else none
theorem Wr {T:Tab} {c:Zv} {e:Env} {st:St} {r:Ex×Env×St}:run T c e st=some r↔∃n,exec T n c e st=some r:=by
 unfold run
 constructor
 ·intro h
  split at h
  ·exact⟨_,h⟩
  ·cases h
 ·rintro⟨n,hn⟩
  have h:∃n r,exec T n c e st=some r:=⟨n,r,hn⟩
  rw[dif_pos h]
  obtain⟨r',hr'⟩:=h.choose_spec
  have h1:=M4 T (Nat.le_max_left n h.choose) _ _ _ _ hn
  have h2:=M4 T (Nat.le_max_right n h.choose) _ _ _ _ hr'
  rw[h1]at h2
  rw[hr',h2]
theorem Zgy (T:Tab) (n:Nat):ELe (exec T n) (run T):=fun _ _ _ _ h=>Wr.2 ⟨n,h⟩
noncomputable def call (T:Tab):Qx:=Jb T (run T)
theorem Zmm {T:Tab} {a:AV} {args:List AV} {st:St} {r:AV×St} (h:call T a args st=some r):∃n,Jb T (exec T n) a args st=some r:=by
 unfold call Jb at h
 split at h
 ·rename_i f first cap
  simp only[Jb]
  unfold W1 at h⊢
  split at h
  ·exact⟨0,h⟩
  ·split at h
   ·cases h
   ·split at h
    ·rename_i hl
     split at h <;> rename_i h1
     ·obtain⟨n,hn⟩:=Wr.1 h1
      exact⟨n,by rw[if_pos hl,hn];exact h⟩
     ·obtain⟨n,hn⟩:=Wr.1 h1
      exact⟨n,by rw[if_pos hl,hn];exact h⟩
     ·cases h
    ·cases h
 ·rename_i l
  simp only[Jb]
  unfold N8 at h⊢
  split at h
  ·split at h
   ·rename_i hl
    split at h <;> rename_i h1
    ·split at h <;> rename_i h2
     ·split at h <;> rename_i h3
      ·obtain⟨n,hn⟩:=Wr.1 h1
       obtain⟨m,hm⟩:=Wr.1 h3
       refine⟨max n m,?_⟩
       rw[if_pos hl,M4 T (Nat.le_max_left n m) _ _ _ _ hn]
       simp only
       rw[h2]
       simp only
       rw[M4 T (Nat.le_max_right n m) _ _ _ _ hm]
       exact h
      ·cases h
     ·cases h
    ·cases h
   ·cases h
  ·cases h
 ·cases h
theorem Zuj {T:Tab} {ev:AO→AV} {st:St} {o:MO} {r:AV×St} (h:MO.run (call T) ev st o=some r):∃n,MO.run (Jb T (exec T n)) ev st o=some r:=by
 cases o with
 | w p=>
   cases p with
   | call f xs=>exact Zmm h
   | _=>exact⟨0,h⟩
 | _=>exact⟨0,h⟩
theorem Zzt {T:Tab} {o:MI} {e:Env} {st:St} {r:Env×St} (h:o.run (call T) e st=some r):∃n,o.run (Jb T (exec T n)) e st=some r:=by
 unfold MI.run at h⊢
 split at h
 ·split at h <;> rename_i h1
  ·obtain⟨n,hn⟩:=Zuj h1
   exact⟨n,by rw[hn];exact h⟩
  ·cases h
 ·exact⟨0,h⟩
 ·cases h
theorem Eh (T:Tab) {n m:Nat} (h:n≤m):CLe (Jb T (exec T n)) (Jb T (exec T m)):=Zgw (M4 T h)
theorem Fq {T:Tab}:∀{l:List MI} {e:Env} {st:St} {r:Env×St},Ko (call T) l e st=some r→∃n,Ko (Jb T (exec T n)) l e st=some r
 | [],_,_,_,h=>⟨0,h⟩
 | o::l,e,st,r,h=>by
   simp only[Ko]at h⊢
   split at h <;> rename_i h1
   ·obtain⟨n,hn⟩:=Zzt h1
    obtain⟨m,hm⟩:=Fq h
    exact⟨max n m,by rw[MI.mono (Eh T (Nat.le_max_left n m)) hn];exact Wq (Eh T (Nat.le_max_right n m)) hm⟩
   ·cases h
theorem Zwp {T:Tab} {nm:Nat} {o:MI} {e:Env} {st:St} {r:Env×St×Nat} (h:G9 (call T) nm o e st=some r):∃n,G9 (Jb T (exec T n)) nm o e st=some r:=by
 unfold G9 at h⊢
 split at h
 ·split at h
  ·exact⟨0,h⟩
  ·split at h <;> rename_i h1
   ·obtain⟨n,hn⟩:=Zuj h1
    exact⟨n,by rw[hn];exact h⟩
   ·cases h
 ·exact⟨0,h⟩
 ·cases h
theorem Zgj {T:Tab}:∀{l:List RI} {d:List (Nat×MI)} {nm:Nat} {e:Env} {st:St} {r:Env×St},G2 (call T) d nm l e st=some r→∃n,G2 (Jb T (exec T n)) d nm l e st=some r
 | [],_,_,_,_,_,h=>⟨0,h⟩
 | .op i o::l,d,nm,e,st,r,h=>by
   simp only[G2]at h⊢
   split at h <;> rename_i h1
   ·obtain⟨n,hn⟩:=Zwp h1
    obtain⟨m,hm⟩:=Zgj h
    exact⟨max n m,by rw[Zm4 (Eh T (Nat.le_max_left n m)) hn];exact Oc (Eh T (Nat.le_max_right n m)) hm⟩
   ·cases h
 | .re i::l,d,nm,e,st,r,h=>by
   simp only[G2]at h⊢
   split at h
   ·rename_i h1
    obtain⟨m,hm⟩:=Zgj h
    exact⟨m,by rw[if_pos h1];exact hm⟩
   ·cases h
theorem Zhe {T:Tab} {nx more pair:Nat} {post:List MI} {ks:List Nat} {body:Zv} {e:Env} {st:St}:
  ∀{es:List (AV×AV)} {u:Unit},rounds (call T) (run T) nx more pair post ks body e st es=some u→∃n,rounds (Jb T (exec T n)) (exec T n) nx more pair post ks body e st es=some u
 | [],_,h=>⟨0,h⟩
 | (k,v)::r,u,h=>by
   simp only[rounds]at h
   split at h
   case h_2=>cases h
   rename_i h1
   split at h
   case h_2=>cases h
   rename_i h2
   split at h
   case isFalse=>cases h
   rename_i h3
   obtain⟨a,ha⟩:=Fq h1
   obtain⟨b,hb⟩:=Wr.1 h2
   obtain⟨c,hc⟩:=Zhe h
   refine⟨max a (max b c),?_⟩
   simp only[rounds]
   rw[Wq (Eh T (Nat.le_max_left a _)) ha]
   simp only
   rw[M4 T (Nat.le_trans (Nat.le_max_left b c) (Nat.le_max_right a _)) _ _ _ _ hb]
   simp only
   rw[if_pos h3]
   have hbc:=Nat.le_trans (Nat.le_max_right b c) (Nat.le_max_right a _)
   exact E3 (Eh T hbc) (M4 T hbc) hc
theorem run_eq (T:Tab) (c:Zv) (e:Env) (st:St):run T c e st=Zz T (run T) c e st:=by
 have fwd:∀r,run T c e st=some r→Zz T (run T) c e st=some r:=by
  intro r h
  obtain⟨n,hn⟩:=Wr.1 h
  cases n with
  | zero=>cases hn
  | succ n=>exact Zgx (Zgy T n) _ _ _ _ hn
 have bwd:∀r,Zz T (run T) c e st=some r→run T c e st=some r:=by
  intro r h
  suffices hs:∃n,Zz T (exec T n) c e st=some r by
   obtain⟨n,hn⟩:=hs
   exact Wr.2 ⟨n+1,hn⟩
  have one:∀{c' e' st' r'},run T c' e' st'=some r'→∃n,∀m,n≤m→exec T m c' e' st'=some r':=by
   intro c' e' st' r' h'
   obtain⟨n,hn⟩:=Wr.1 h'
   exact⟨n,fun m hm=>M4 T hm _ _ _ _ hn⟩
  cases c with
  | skip=>exact⟨0,h⟩
  | Ze l=>
    simp only[Zz]at h⊢
    split at h <;> rename_i h1
    ·obtain⟨n,hn⟩:=Fq h1
     exact⟨n,by rw[hn];exact h⟩
    ·cases h
  | Kv l=>
    simp only[Zz]at h⊢
    split at h <;> rename_i h1
    ·obtain⟨n,hn⟩:=Zgj h1
     exact⟨n,by rw[hn];exact h⟩
    ·cases h
  | seq a b=>
    by_cases hk:∃l,a= .Zd l
    ·obtain⟨l,rfl⟩:=hk
     simp only[Zz]at h⊢
     exact Wr.1 h
    ·have e1:∀ex:ExF,Zz T ex (.seq a b) e st=(match ex a e st with | some (.norm,e,st)=>ex b e st | r=>r):=by
      intro ex
      cases a <;> first | rfl | exact absurd ⟨_,rfl⟩ hk
     simp only[e1]at h⊢
     split at h <;> rename_i h1
     ·obtain⟨n,hn⟩:=one h1
      obtain⟨m,hm⟩:=one h
      refine⟨max n m,?_⟩
      rw[hn _ (Nat.le_max_left n m)]
      exact hm _ (Nat.le_max_right n m)
     ·obtain⟨n,hn⟩:=one h
      refine⟨n,?_⟩
      rw[hn n (Nat.le_refl _)]
      split
      ·rename_i e2 st2 heq
       exact absurd h (by rw[heq];exact h1 e2 st2)
      ·rfl
  | cond x a b=>
    simp only[Zz]at h⊢
    split at h
    ·exact Wr.1 h
    ·exact Wr.1 h
    ·cases h
  | block i b=>
    simp only[Zz]at h⊢
    split at h <;> rename_i h1
    ·obtain⟨n,hn⟩:=Wr.1 h1
     exact⟨n,by rw[hn];exact h⟩
    ·obtain⟨n,hn⟩:=Wr.1 h
     refine⟨n,?_⟩
     rw[hn]
     split
     ·rename_i i2 e2 st2 heq
      exact absurd h (by rw[heq];exact h1 i2 e2 st2)
     ·rfl
  | loop b=>
    simp only[Zz]at h⊢
    split at h <;> rename_i h1
    ·obtain⟨n,hn⟩:=one h1
     obtain⟨m,hm⟩:=one h
     refine⟨max n m,?_⟩
     rw[hn _ (Nat.le_max_left n m)]
     exact hm _ (Nat.le_max_right n m)
    ·obtain⟨n,hn⟩:=one h
     refine⟨n,?_⟩
     rw[hn n (Nat.le_refl _)]
     split
     ·rename_i e2 st2 heq
      exact absurd h (by rw[heq];exact h1 e2 st2)
     ·rfl
  | scope b=>simp only[Zz]at h⊢;exact Wr.1 h
  | rangeFunc f ps a b=>
    simp only[Zz]at h⊢
    split at h <;> rename_i h1
    ·obtain⟨n,hn⟩:=Zmm h1
     exact⟨n,by rw[hn];exact h⟩
    ·cases h
  | exit i=>exact⟨0,h⟩
  | ret=>exact⟨0,h⟩
  | Zd l=>exact⟨0,h⟩
  | rangeMap pre m d nx more pair post ks out next body=>
    simp only[Zz]at h
    split at h
    case h_2=>cases h
    rename_i h1
    split at h
    case h_2=>cases h
    rename_i h2
    split at h
    case h_2=>cases h
    rename_i h3
    split at h
    case h_2=>cases h
    rename_i h4
    obtain⟨a,ha⟩:=Fq h1
    obtain⟨b,hb⟩:=Zhe h4
    refine⟨max a b,?_⟩
    simp only[Zz]
    rw[Wq (Eh T (Nat.le_max_left a b)) ha]
    simp only[h2,h3]
    rw[E3 (Eh T (Nat.le_max_right a b)) (M4 T (Nat.le_max_right a b)) hb]
    exact h
  | stuck=>exact⟨0,h⟩
 cases hr:run T c e st with
 | some r=>exact(fwd r hr).symm
 | none=>
   cases he:Zz T (run T) c e st with
   | none=>rfl
   | some r=>rw[bwd r he]at hr;cases hr
end Go.Ev

/- The evaluator's equations, for rewriting: code by code, operation by operation. -/
namespace Go.Ev
open Go
variable {T : Tab} {e : Env} {st : St}
noncomputable def Od (T:Tab) (b:Zv):Option (Ex×Env×St)→Option (Ex×Env×St)
 | some (.norm,e,st)=>run T b e st
 | r=>r
@[go_sem] theorem Zafp (b:Zv):Od T b (some (.norm,e,st))=run T b e st:=rfl
@[go_sem] theorem Zafn (b:Zv) (i:Nat):Od T b (some (.exit i,e,st))=some (.exit i,e,st):=rfl
@[go_sem] theorem Zahl (b:Zv):Od T b (some (.ret,e,st))=some (.ret,e,st):=rfl
@[go_sem] theorem Zafo (b:Zv):Od T b none=none:=rfl
def opsR (call:Qx) (l:List MI):Option (Env×St)→Option (Env×St)
 | some (e,st)=>Ko call l e st
 | none=>none
@[go_sem] theorem Zafi (call:Qx) (l:List MI):opsR call l (some (e,st))=Ko call l e st:=rfl
@[go_sem] theorem Zafh (call:Qx) (l:List MI):opsR call l none=none:=rfl
def Zyr:Option (Env×St)→Option (Ex×Env×St)
 | some (e,st)=>some (.norm,e,st)
 | none=>none
@[go_sem] theorem Zafg:Zyr (some (e,st))=some (.norm,e,st):=rfl
@[go_sem] theorem Zaff:Zyr none=none:=rfl
def Ts (i:Nat):Option (Ex×Env×St)→Option (Ex×Env×St)
 | some (.exit j,e,st)=>if j=i then some (.norm,e,st)else some (.exit j,e,st)
 | r=>r
@[go_sem] theorem Zace (i:Nat):Ts i (some (.norm,e,st))=some (.norm,e,st):=rfl
@[go_sem] theorem Zadg (i:Nat):Ts i (some (.ret,e,st))=some (.ret,e,st):=rfl
@[go_sem] theorem Zp7 (i j:Nat):Ts i (some (.exit j,e,st))=if j=i then some (.norm,e,st)else some (.exit j,e,st):=rfl
@[go_sem] theorem Zacd (i:Nat):Ts i none=none:=rfl
@[go_sem] theorem Zahh:run T .skip e st=some (.norm,e,st):=run_eq ..
@[go_sem] theorem Zy3 (i:Nat):run T (.exit i) e st=some (.exit i,e,st):=run_eq ..
@[go_sem] theorem Zabk:run T .ret e st=some (.ret,e,st):=run_eq ..
@[go_sem] theorem Zahf (l:List Nat) (m:Zv):run T (.seq (.Zd l) m) e st=run T m (X3 l e) st:=run_eq ..
@[go_sem] theorem Zafk (b:Zv):run T (.scope b) e st=run T b e st:=run_eq ..
@[go_sem] theorem Zafj (i:Nat) (b:Zv):run T (.block i b) e st=Ts i (run T b e st):=by
  rw[run_eq]
  simp only[Zz]
  unfold Ts
  split
  ·rename_i h
   rw[h]
  ·rename_i h
   split
   ·rename_i h2
    exact absurd h2 (h _ _ _)
   ·rfl
@[go_sem] theorem Zahz (l:List MI):run T (.Ze l) e st=Zyr (Ko (call T) l e st):=by
  rw[run_eq]
  simp only[Zz,call]
  cases Ko (Jb T (run T)) l e st <;> rfl
@[go_sem] theorem Zahg (l:List RI):run T (.Kv l) e st=Zyr (G2 (call T) [] st.nx l e ⟨st.h,st.nx+l.length⟩):=by
  rw[run_eq]
  simp only[Zz,call]
  cases G2 (Jb T (run T)) [] st.nx l e ⟨st.h,st.nx+l.length⟩ <;> rfl
theorem Xg {a b:Zv} (h:∀l,a≠.Zd l):run T (.seq a b) e st=Od T b (run T a e st):=by
 rw[run_eq]
 have e1:Zz T (run T) (.seq a b) e st=(match run T a e st with | some (.norm,e,st)=>run T b e st | r=>r):=by
  cases a <;> first | rfl | exact absurd rfl (h _)
 rw[e1]
 unfold Od
 split <;> rfl
section
variable (b c d : Zv)
@[go_sem] theorem Zabp:run T (.seq .skip b) e st=Od T b (run T .skip e st):=Xg (by simp)
@[go_sem] theorem Zacw (l:List MI):run T (.seq (.Ze l) b) e st=Od T b (run T (.Ze l) e st):=Xg (by simp)
@[go_sem] theorem Zabo (l:List RI):run T (.seq (.Kv l) b) e st=Od T b (run T (.Kv l) e st):=Xg (by simp)
@[go_sem] theorem Zacy:run T (.seq (.seq c d) b) e st=Od T b (run T (.seq c d) e st):=Xg (by simp)
@[go_sem] theorem Zabl (x:AO):run T (.seq (.cond x c d) b) e st=Od T b (run T (.cond x c d) e st):=Xg (by simp)
@[go_sem] theorem Zzq (i:Nat):run T (.seq (.block i c) b) e st=Od T b (run T (.block i c) e st):=Xg (by simp)
@[go_sem] theorem Zabn:run T (.seq (.loop c) b) e st=Od T b (run T (.loop c) e st):=Xg (by simp)
@[go_sem] theorem Zzr:run T (.seq (.scope c) b) e st=Od T b (run T (.scope c) e st):=Xg (by simp)
@[go_sem] theorem Zabm (i:Nat):run T (.seq (.exit i) b) e st=some (.exit i,e,st):=by rw[Xg (by simp),Zy3];rfl
@[go_sem] theorem Zacx:run T (.seq .ret b) e st=some (.ret,e,st):=by rw[Xg (by simp),Zabk];rfl
@[go_sem] theorem Zaen (pre:List MI) (m:AO) (d nx more pair:Nat) (post:List MI) (ks:List Nat) (out next:Nat):run T (.seq (.rangeMap pre m d nx more pair post ks out next c) b) e st=Od T b (run T (.rangeMap pre m d nx more pair post ks out next c) e st):=Xg (by simp)
@[go_sem] theorem Zaem (f:AO) (ps:List Nat):run T (.seq (.rangeFunc f ps c d) b) e st=Od T b (run T (.rangeFunc f ps c d) e st):=Xg (by simp)
end
theorem Zs (b:Zv):run T (.loop b) e st=Od T (.loop b) (run T b e st):=by
 rw[run_eq]
 simp only[Zz]
 unfold Od
 split
 ·rename_i h1
  rw[h1]
 ·rename_i h1
  split
  ·rename_i h2
   exact absurd h2 (h1 _ _)
  ·rfl
noncomputable def brR (T:Tab) (a b:Zv) (e:Env) (st:St):AV→Option (Ex×Env×St)
 | .bool v=>if v=true then run T a e st else run T b e st
 | _=>none
@[go_sem] theorem Zagf (a b:Zv) (v:Bool):brR T a b e st (.bool v)=if v=true then run T a e st else run T b e st:=rfl
@[go_sem] theorem Zahe (x:AO) (a b:Zv):run T (.cond x a b) e st=brR T a b e st (x.ev e):=by
  rw[run_eq]
  simp only[Zz]
  cases x.ev e with
  | bool v=>cases v <;> rfl
  | _=>rfl
@[go_sem] theorem Zacv (call:Qx):Ko call [] e st=some (e,st):=rfl
@[go_sem] theorem Zabj (call:Qx) (i:MI) (l:List MI):Ko call (i::l) e st=opsR call l (i.run call e st):=by
  simp only[Ko]
  cases i.run call e st <;> rfl
def miR (d:Option Nat) (e:Env):Option (AV×St)→Option (Env×St)
 | some (v,st)=>some (Vm e d v,st)
 | none=>none
@[go_sem] theorem Zagz (d:Option Nat) (v:AV):miR d e (some (v,st))=some (Vm e d v,st):=rfl
@[go_sem] theorem Zagy (d:Option Nat):miR d e none=none:=rfl
@[go_sem] theorem Zab5 (call:Qx) (d:Option Nat) (o:MO):MI.run call ⟨d,none,o⟩ e st=miR d e (o.run call (AO.ev e) st):=by
  simp only[MI.run,wanted]
  cases o.run call (AO.ev e) st <;> rfl
def Zob (call:Qx) (d:Option Nat) (b:Bool) (o:MO) (e:Env) (st:St):AV→Option (Env×St)
 | .bool c=>if c=b then miR d e (o.run call (AO.ev e) st)else some (Vm e d Hz,st)
 | .tuple _=>some (Vm e d Hz,st)
 | _=>none
@[go_sem] theorem Zack (call:Qx) (d:Option Nat) (b c:Bool) (o:MO):Zob call d b o e st (.bool c)=if c=b then miR d e (o.run call (AO.ev e) st)else some (Vm e d Hz,st):=rfl
@[go_sem] theorem Zaap (call:Qx) (d:Option Nat) (b:Bool) (o:MO) (l:List AV):Zob call d b o e st (.tuple l)=some (Vm e d Hz,st):=rfl
@[go_sem] theorem Zzu (call:Qx) (d:Option Nat) (t:Nat) (b:Bool) (o:MO):MI.run call ⟨d,some (t,b),o⟩ e st=Zob call d b o e st (Zl e t):=by
  simp only[MI.run,wanted]
  cases hv:Zl e t with
  | bool c=>
    simp only[Zob]
    cases hcb:c == b with
    | true=>
      rw[if_pos (by simpa using hcb)]
      simp only
      cases o.run call (AO.ev e) st <;> rfl
    | false=>rw[if_neg (by simpa using hcb)]
  | _=>rfl
@[go_sem] theorem MO_p (call:Qx) (ev:AO→AV) (o:PO):MO.run call ev st (.p o)=(PO.run ev o).map fun v=>(v,st):=by
  simp only[MO.run];cases PO.run ev o <;> rfl
@[go_sem] theorem MO_r (call:Qx) (ev:AO→AV) (o:RO):MO.run call ev st (.r o)=(RO.run ev st.h o).map fun v=>(v,st):=by
  simp only[MO.run];cases RO.run ev st.h o <;> rfl
@[go_sem] theorem MO_n (call:Qx) (ev:AO→AV) (o:NO):MO.run call ev st (.n o)=(NO.run ev st.nx o).map fun p=>(p.1,⟨(st.nx,p.2)::st.h,st.nx+1⟩):=by
  simp only[MO.run];cases NO.run ev st.nx o <;> rfl
@[go_sem] theorem Zahp (call:Qx) (ev:AO→AV) (f:AO) (xs:List AO):MO.run call ev st (.w (.call f xs))=call (ev f) (xs.map ev) st:=rfl
@[go_sem] theorem Zaft (call:Qx) (ev:AO→AV) (z:Nat) (a x:AO):MO.run call ev st (.w (.store z a x))=WO.run call ev st (.store z a x):=rfl
@[go_sem] theorem Zae2 (call:Qx) (ev:AO→AV) (a b c:Nat) (z:List AV) (s x:AO):MO.run call ev st (.w (.append a b c z s x))=Vf a b c st (ev s) (ev x):=rfl
@[go_sem] theorem Zahq (call:Qx) (ev:AO→AV) (z:Nat) (a x:AO):MO.run call ev st (.w (.copy z a x))=WO.run call ev st (.copy z a x):=rfl
@[go_sem] theorem Zahr (call:Qx) (ev:AO→AV) (k:Kd) (a b c:AO):MO.run call ev st (.w (.Zbp k a b c))=WO.run call ev st (.Zbp k a b c):=rfl
@[go_sem] theorem ev_t (n:Nat):AO.ev e (.t n)=Zl e n:=rfl
@[go_sem] theorem ev_k (v:AV):AO.ev e (.k v)=v:=rfl
@[go_sem] theorem Zae9 (d:Nat) (v:AV):Vm e (some d) v=(d,v)::e:=rfl
@[go_sem] theorem Zae8 (v:AV):Vm e none v=e:=rfl
@[go_sem] theorem Zagq (t:Nat):Zl [] t= .bot:=rfl
@[go_sem] theorem Zae7 (m t:Nat) (v:AV):Zl ((m,v)::e) t=if m=t then v else Zl e t:=rfl
@[go_sem] theorem Zafe:X3 [] e=[]:=rfl
@[go_sem] theorem Zad3 (t:Nat) (l:List Nat):X3 (t::l) e=(t,Zl e t)::X3 l e:=rfl
def Zbe (k:IntKind) (a b:Int):Int:=k.wrap (BitVec.ofInt k.bits a &&& BitVec.ofInt k.bits b).toNat
def ior (k:IntKind) (a b:Int):Int:=k.wrap (BitVec.ofInt k.bits a ||| BitVec.ofInt k.bits b).toNat
def Ztp (k:IntKind) (a b:Int):Int:=k.wrap (BitVec.ofInt k.bits a ^^^ BitVec.ofInt k.bits b).toNat
def Zacl (k:IntKind) (a b:Int):Int:=k.wrap (BitVec.ofInt k.bits a &&& ~~~ BitVec.ofInt k.bits b).toNat
def Zyc (k:IntKind) (a b:Int):Int:=k.wrap (a*(2 ^ (min b.toNat k.bits):Nat))
def Zed (k:IntKind) (a b:Int):Int:=a.fdiv (2 ^ (min b.toNat k.bits):Nat)
def Zacm (k:IntKind) (n:Int):Int:=k.wrap (BitVec.ofInt k.bits (if k.signed then -1 else k.max) ^^^ BitVec.ofInt k.bits n).toNat
section
variable (k k' : IntKind) (a b : Int)
@[go_sem] theorem Zafz:Uh .add (.int k a) (.int k' b)=if k=k' then some (.int k (k.wrap (a+b)))else none:=by simp only[Uh,F7,Ym,Lw]
@[go_sem] theorem Zagd:Uh .sub (.int k a) (.int k' b)=if k=k' then some (.int k (k.wrap (a - b)))else none:=by simp only[Uh,F7,Ym,Lw]
@[go_sem] theorem Zaf6:Uh .mul (.int k a) (.int k' b)=if k=k' then some (.int k (k.wrap (a*b)))else none:=by simp only[Uh,F7,Ym,Lw]
@[go_sem] theorem Zaf8:Uh .quo (.int k a) (.int k' b)=if k=k' then(if b=0 then none else some (.int k (k.wrap (a.tdiv b))))else none:=by simp only[Uh,F7,Ym,Lw]
@[go_sem] theorem Zaf9:Uh .rem (.int k a) (.int k' b)=if k=k' then(if b=0 then none else some (.int k (a.tmod b)))else none:=by simp only[Uh,F7,Ym]
@[go_sem] theorem Zaf0:Uh .and (.int k a) (.int k' b)=if k=k' then some (.int k (Zbe k a b))else none:=by simp only[Uh,F7,Ym,Lw,Zbe]
@[go_sem] theorem Zaht:Uh .or (.int k a) (.int k' b)=if k=k' then some (.int k (ior k a b))else none:=by simp only[Uh,F7,Ym,Lw,ior]
@[go_sem] theorem Zage:Uh .xor (.int k a) (.int k' b)=if k=k' then some (.int k (Ztp k a b))else none:=by simp only[Uh,F7,Ym,Lw,Ztp]
@[go_sem] theorem Zab9:Uh .andNot (.int k a) (.int k' b)=if k=k' then some (.int k (Zacl k a b))else none:=by simp only[Uh,F7,Ym,Lw,Zacl]
@[go_sem] theorem Zaga:Uh .shl (.int k a) (.int k' b)=if b<0 then none else some (.int k (Zyc k a b)):=by simp only[Uh,Ym,Lw,Zyc]
@[go_sem] theorem Zagb:Uh .shr (.int k a) (.int k' b)=if b<0 then none else some (.int k (Zed k a b)):=by simp only[Uh,Ym,Zed]
@[go_sem] theorem Zaf1:Uh .eql (.int k a) (.int k' b)=if k=k' then some (.bool (decide (a=b)))else none:=by simp only[Uh,F7]
@[go_sem] theorem Zaf7:Uh .neq (.int k a) (.int k' b)=if k=k' then some (.bool (!decide (a=b)))else none:=by simp only[Uh,F7]
@[go_sem] theorem Zaf5:Uh .lss (.int k a) (.int k' b)=if k=k' then some (.bool (decide (a<b)))else none:=by simp only[Uh,F7]
@[go_sem] theorem Zaf4:Uh .leq (.int k a) (.int k' b)=if k=k' then some (.bool (decide (a≤b)))else none:=by simp only[Uh,F7]
@[go_sem] theorem Zaf3:Uh .gtr (.int k a) (.int k' b)=if k=k' then some (.bool (decide (b<a)))else none:=by simp only[Uh,F7]
@[go_sem] theorem Zaf2:Uh .geq (.int k a) (.int k' b)=if k=k' then some (.bool (decide (b≤a)))else none:=by simp only[Uh,F7]
@[go_sem] theorem Zagc (op:BinOp) (x y:List UInt8):Uh op (.str x) (.str y)=Zr4 op x y:=by simp only[Uh]
@[go_sem] theorem Zahu:aun .neg (.int k a)=some (.int k (k.wrap (0 - a))):=by simp only[aun,Ym,Lw]
@[go_sem] theorem Zahw:aun .xor (.int k a)=some (.int k (Zacm k a)):=by simp only[aun,Ym,Lw,Zacm]
@[go_sem] theorem Zahv (x:Bool):aun .not (.bool x)=some (.bool !x):=rfl
end
attribute [go_sem] PO.run Ym Lw Zr4 Option.map_some Option.map_none
end Go.Ev

/- Calls on symbolic data: states that are well made, and what a call leaves alone. -/
namespace Go.Ev
open Go
variable {T : Tab} {e : Env} {st st' st'' : St}
structure St.Wf (st:St):Prop where
 lt:∀n o,Zh st.h n=some o→n<st.nx
 nd:(st.h.map (·.1)).Nodup
structure Ext (st st':St):Prop where
 nx:st.nx≤st'.nx
 wf:st'.Wf
 Zd:∀n,n<st.nx→Zh st'.h n=Zh st.h n
theorem Ext.refl (h:st.Wf):Ext st st:=⟨Nat.le_refl _,h,fun _ _=>rfl⟩
theorem Ext.trans (a:Ext st st') (b:Ext st' st''):Ext st st'':=
 ⟨Nat.le_trans a.nx b.nx,b.wf,fun n hn=>by rw[b.Zd n (Nat.lt_of_lt_of_le hn a.nx),a.Zd n hn]⟩
theorem Ext.get (a:Ext st st') (hw:st.Wf) {n:Nat} {o:Qb} (h:Zh st.h n=some o):Zh st'.h n=some o:=by
 rw[a.Zd n (hw.lt n o h),h]
structure Frm (S:List Nat) (st st':St):Prop where
 nx:st.nx≤st'.nx
 wf:st'.Wf
 Zd:∀n,n<st.nx→n∉S→Zh st'.h n=Zh st.h n
theorem Ext.fr (a:Ext st st') (S:List Nat):Frm S st st':=⟨a.nx,a.wf,fun n hn _=>a.Zd n hn⟩
theorem Frm.trans {S R:List Nat} (a:Frm S st st') (b:Frm R st' st'') (h:∀n∈R,n∈S∨st.nx≤n):Frm S st st'':=
 ⟨Nat.le_trans a.nx b.nx,b.wf,fun n hn hs=>by
   rw[b.Zd n (Nat.lt_of_lt_of_le hn a.nx) (fun hr=>by
    rcases h n hr with h | h
    ·exact hs h
    ·omega),a.Zd n hn hs]⟩
theorem Frm.mono {S R:List Nat} (a:Frm S st st') (h:∀n∈S,n∈R):Frm R st st':=⟨a.nx,a.wf,fun n hn hr=>a.Zd n hn (fun hs=>hr (h n hs))⟩
theorem Frm.get {S:List Nat} (a:Frm S st st') (hw:st.Wf) {n:Nat} {o:Qb} (h:Zh st.h n=some o) (hn:n∉S):Zh st'.h n=some o:=by
 rw[a.Zd n (hw.lt n o h) hn,h]
theorem Frm.ext {S:List Nat} (a:Frm S st st') (h:∀n∈S,st.nx≤n):Ext st st':=
 ⟨a.nx,a.wf,fun n hn=>a.Zd n hn (fun hs=>by have:=h n hs;omega)⟩
theorem Zg (m n:Nat) (o:Qb) (h:Heap):Zh ((m,o)::h) n=if m=n then some o else Zh h n:=rfl
theorem Zak (m n:Nat) (o p:Qb) (h:Heap):Z7 ((m,p)::h) n o=if m=n then(n,o)::h else(m,p)::Z7 h n o:=rfl
theorem Zjv:∀{h:Heap} {n:Nat} {o:Qb},Zh h n=some o→(n,o)∈h
 | (m,p)::h,n,o,hg=>by
   simp only[Zh]at hg
   split at hg
   ·rename_i e;subst e;injection hg with e;subst e;exact List.mem_cons_self
   ·exact List.mem_cons_of_mem _ (Zjv hg)
theorem I8:∀{h:Heap} {n:Nat} {o:Qb},(h.map (·.1)).Nodup→(n,o)∈h→Zh h n=some o
 | (m,p)::h,n,o,hd,hm=>by
   simp only[List.map_cons,List.nodup_cons]at hd
   simp only[Zh]
   rcases List.mem_cons.1 hm with e | hm
   ·injection e with e1 e2;subst e1;subst e2;rw[if_pos rfl]
   ·rw[if_neg,I8 hd.2 hm]
    rintro rfl
    exact hd.1 (List.mem_map.2 ⟨_,hm,rfl⟩)
theorem Pp:∀{h:Heap} {n:Nat} {o:Qb},(Z7 h n o).map (·.1)=h.map (·.1)
 | [],_,_=>rfl
 | (m,p)::h,n,o=>by
   simp only[Z7]
   split
   ·rename_i e;subst e;rfl
   ·simp[Pp]
theorem Zd9:∀{h:Heap} {n:Nat},((Ub h n).map (·.1)).Sublist (h.map (·.1))
 | [],_=>List.Sublist.slnil
 | (m,p)::h,n=>by
   simp only[Ub]
   split
   ·exact Zd9.cons _
   ·exact Zd9.cons_cons _
theorem Zf1:∀{l:List Nat} {h:Heap},((Dq l h).map (·.1)).Sublist (h.map (·.1))
 | _,[]=>List.Sublist.slnil
 | l,(m,p)::h=>by
   simp only[Dq]
   split
   ·exact Zf1.cons _
   ·exact Zf1.cons_cons _
theorem Gw:∀{h:Heap} {c:Nat},(∀n o,Zh h n=some o→n<c)→K3 c h=[]
 | [],_,_=>rfl
 | (m,o)::h,c,hh=>by
   have hm:m<c:=hh m o (by simp[Zh])
   have ht:∀n p,Zh h n=some p→n<c:=fun n p hp=>by
    by_cases e:m=n
    ·subst e;exact hm
    ·exact hh n p (by simp only[Zh];rw[if_neg e];exact hp)
   simp only[K3]
   split
   ·rw[if_pos hm,Gw ht]
   ·exact Gw ht
theorem Zqw:∀{h:Heap} {l:List Nat},(∀n∈l,Zh h n=none)→Dq l h=h
 | [],_,_=>rfl
 | (m,o)::h,l,hh=>by
   have hm:Po m l=false:=by
    cases hq:Po m l with
    | false=>rfl
    | true=>
      have:=hh m (Bj.1 hq)
      simp[Zh]at this
   simp only[Dq,hm,Bool.false_eq_true,if_false]
   rw[Zqw (fun n hn=>by
    have:=hh n hn
    simp only[Zh]at this
    split at this
    ·cases this
    ·exact this)]
theorem Zaj (h:Heap):Dq [] h=h:=Zqw (fun n hn=>by cases hn)
theorem Us (c:Nat) (h:Heap):Zb c h=Dq (K3 c h) h:=by
 unfold Zb
 split
 ·rename_i he;rw[he,Zaj]
 ·rfl
theorem Yl:∀{h:Heap} {l:List Nat} {n:Nat},Zh (Dq l h) n=if n∈l then none else Zh h n
 | [],l,n=>by simp[Dq,Zh]
 | (m,o)::h,l,n=>by
   simp only[Dq]
   split
   ·rename_i hm
    rw[Yl]
    simp only[Zh]
    split
    ·rfl
    ·rename_i hn
     rw[if_neg]
     rintro rfl
     exact hn (Bj.1 hm)
   ·rename_i hm
    simp only[Zh]
    rw[Yl]
    by_cases e:m=n
    ·subst e
     rw[if_pos rfl,if_pos rfl,if_neg (fun h=>hm (Bj.2 h))]
    ·rw[if_neg e,if_neg e]
theorem Nb:∀{h:Heap} {c n:Nat},n∈K3 c h→c≤n
 | [],_,_,hn=>by cases hn
 | (m,o)::h,c,n,hn=>by
   simp only[K3]at hn
   split at hn
   ·split at hn
    ·exact Nb hn
    ·rcases List.mem_cons.1 hn with rfl | hn
     ·omega
     ·exact Nb hn
   ·exact Nb hn
theorem Xc:∀{h:Heap} {c n:Nat},n∈K3 c h→∃ty cs,(n,Qb.cells ty true cs)∈h
 | [],_,_,hn=>by cases hn
 | (m,o)::h,c,n,hn=>by
   simp only[K3]at hn
   split at hn
   ·split at hn
    ·obtain⟨ty,cs,h⟩:=Xc hn;exact⟨ty,cs,List.mem_cons_of_mem _ h⟩
    ·rcases List.mem_cons.1 hn with rfl | hn
     ·exact⟨_,_,List.mem_cons_self⟩
     ·obtain⟨ty,cs,h⟩:=Xc hn;exact⟨ty,cs,List.mem_cons_of_mem _ h⟩
   ·obtain⟨ty,cs,h⟩:=Xc hn;exact⟨ty,cs,List.mem_cons_of_mem _ h⟩
theorem Ki {h:Heap} {c n:Nat} (hn:n<c):Zh (Zb c h) n=Zh h n:=by
 rw[Us,Yl,if_neg]
 intro hm
 have:=Nb hm
 omega
theorem Fl {h:Heap} {c n:Nat} {o:Qb} (hg:Zh (Zb c h) n=some o):Zh h n=some o:=by
 rw[Us,Yl]at hg
 split at hg
 ·cases hg
 ·exact hg
theorem Zqk {h:Heap} {c:Nat}:((Zb c h).map (·.1)).Sublist (h.map (·.1)):=by
 rw[Us];exact Zf1
theorem St.Wf.Zb (a:st'.Wf) (c:Nat):St.Wf ⟨Zb c st'.h,st'.nx⟩:=⟨fun n o ho=>a.lt n o (Fl ho),a.nd.sublist Zqk⟩
def Qb.lc:Qb→Bool
 | .cells _ true _=>true
 | _=>false
theorem Qh {c n:Nat} {o:Qb} (hw:st.Wf) (hg:Zh st.h n=some o) (hl:o.lc=false):Zh (Zb c st.h) n=some o:=by
 rw[Us,Yl,if_neg,hg]
 intro hm
 obtain⟨ty,cs,Po⟩:=Xc hm
 rw[I8 hw.nd Po]at hg
 injection hg with e
 subst e
 cases hl
theorem Ext.Zb (a:Ext st st'):Ext st ⟨Zb st.nx st'.h,st'.nx⟩:=
 ⟨a.nx,a.wf.Zb _,fun n hn=>by rw[Ki hn,a.Zd n hn]⟩
theorem Ext.aside (h:st.Wf) (k:Nat):Ext st ⟨st.h,st.nx+k⟩:=⟨Nat.le_add_right _ _,⟨fun n o ho=>Nat.lt_of_lt_of_le (h.lt n o ho) (Nat.le_add_right _ _),h.nd⟩,fun _ _=>rfl⟩
theorem Frm.Zb {S:List Nat} (a:Frm S st st'):Frm S st ⟨Go.Ev.Zb st.nx st'.h,st'.nx⟩:=
 ⟨a.nx,a.wf.Zb _,fun n hn hs=>by rw[Ki hn,a.Zd n hn hs]⟩
theorem Frm.set (h:st.Wf) {n:Nat} {o p:Qb} (hg:Zh st.h n=some p):Frm [n] st ⟨Z7 st.h n o,st.nx⟩:=
 ⟨Nat.le_refl _,⟨fun m q hq=>by
   rw[Lc hg]at hq
   split at hq
   ·rename_i e;subst e;exact h.lt _ _ hg
   ·exact h.lt _ _ hq,by show ((Z7 st.h n o).map _).Nodup;rw[Pp];exact h.nd⟩,fun m hm hs=>by
   rw[Lc hg,if_neg]
   rintro rfl
   exact hs List.mem_cons_self⟩
theorem Ext.new (h:st.Wf) (o:Qb):Ext st ⟨(st.nx,o)::st.h,st.nx+1⟩:=by
 refine⟨Nat.le_succ _,⟨fun n p hp=> ?_,?_⟩,fun n hn=> ?_⟩
 ·simp only[Zh]at hp
  split at hp
  ·rename_i e;subst e;exact Nat.lt_succ_self _
  ·exact Nat.lt_succ_of_lt (h.lt n p hp)
 ·simp only[List.map_cons,List.nodup_cons]
  refine⟨fun hm=> ?_,h.nd⟩
  obtain⟨⟨m,p⟩,hm,e⟩:=List.mem_map.1 hm
  simp only at e
  subst e
  have:=h.lt _ _ (I8 h.nd hm)
  omega
 ·simp only[Zh]
  rw[if_neg (by omega)]
def Zp9 (mf:Qa) (st:St):Option (Ex×Env×St)→Option (AV×St)
 | some (.norm,e,s) | some (.ret,e,s)=>(Zt s.h e mf.results).map fun v=>(v,⟨Zb st.nx s.h,s.nx⟩)
 | _=>none
theorem Zun {k:Nat} {mf:Qa} (hen:T.en k=none) (hf:T.fn k=some mf) {first args cap:List AV} (hl:(first++args++cap).length=mf.Zg7):
  call T (.fn k first cap) args st=Zp9 mf st (run T mf.body (V0 0 (first++args++cap)) st):=by
 simp only[call,Jb,W1,hen,hf]
 rw[if_pos hl]
 unfold Zp9
 split <;> rename_i h1 <;> simp only[h1]
 ·cases Zt _ _ mf.results <;> rfl
 ·cases Zt _ _ mf.results <;> rfl
def Res (r:Option (Ex×Env×St)) (Q:Ex→Env→St→Prop):Prop:=match r with | some (x,e,s)=>Q x e s | none=>False
@[go_sem] theorem Zafx (x:Ex) (s:St) (Q:Ex→Env→St→Prop):Res (some (x,e,s)) Q=Q x e s:=rfl
theorem Res.elim {r:Option (Ex×Env×St)} {Q:Ex→Env→St→Prop} (h:Res r Q):∃x e s,r=some (x,e,s)∧Q x e s:=by
 unfold Res at h
 split at h
 ·exact⟨_,_,_,rfl,h⟩
 ·exact h.elim
theorem Res.mono {r:Option (Ex×Env×St)} {Q R:Ex→Env→St→Prop} (h:Res r Q) (hq:∀x e s,Q x e s→R x e s):Res r R:=by
 obtain⟨x,e,s,rfl,h⟩:=h.elim
 exact hq _ _ _ h
def Zav (r:Option (Env×St)) (Q:Env→St→Prop):Prop:=match r with | some (e,s)=>Q e s | none=>False
def Qt (r:Option (AV×St)) (Q:AV→St→Prop):Prop:=match r with | some (v,s)=>Q v s | none=>False
@[go_sem] theorem Zae4 (s:St) (Q:Env→St→Prop):Zav (some (e,s)) Q=Q e s:=rfl
@[go_sem] theorem Zvh (v:AV) (s:St) (Q:AV→St→Prop):Qt (some (v,s)) Q=Q v s:=rfl
def Ztq (T:Tab) (b:Zv) (Q:Ex→Env→St→Prop) (x:Ex) (e:Env) (s:St):Prop:=Res (Od T b (some (x,e,s))) Q
@[go_sem] theorem Zal (b:Zv) (Q:Ex→Env→St→Prop) (s:St):Ztq T b Q .norm e s=Res (run T b e s) Q:=rfl
@[go_sem] theorem Zafd (b:Zv) (Q:Ex→Env→St→Prop) (i:Nat) (s:St):Ztq T b Q (.exit i) e s=Q (.exit i) e s:=rfl
@[go_sem] theorem Zagv (b:Zv) (Q:Ex→Env→St→Prop) (s:St):Ztq T b Q .ret e s=Q .ret e s:=rfl
@[go_sem] theorem Zxh (b:Zv) (r:Option (Ex×Env×St)) (Q:Ex→Env→St→Prop):Res (Od T b r) Q=Res r (Ztq T b Q):=by
  cases r with
  | none=>rfl
  | some p=>obtain⟨x,e,s⟩:=p;rfl
def Zv3 (i:Nat) (Q:Ex→Env→St→Prop) (x:Ex) (e:Env) (s:St):Prop:=Res (Ts i (some (x,e,s))) Q
@[go_sem] theorem Zafc (i:Nat) (Q:Ex→Env→St→Prop) (s:St):Zv3 i Q .norm e s=Q .norm e s:=rfl
@[go_sem] theorem Zagt (i:Nat) (Q:Ex→Env→St→Prop) (s:St):Zv3 i Q .ret e s=Q .ret e s:=rfl
@[go_sem] theorem Zafb (i j:Nat) (Q:Ex→Env→St→Prop) (s:St):Zv3 i Q (.exit j) e s=if j=i then Q .norm e s else Q (.exit j) e s:=by
  unfold Zv3
  rw[Zp7]
  split <;> rfl
@[go_sem] theorem Zac7 (i:Nat) (r:Option (Ex×Env×St)) (Q:Ex→Env→St→Prop):Res (Ts i r) Q=Res r (Zv3 i Q):=by
  cases r with
  | none=>rfl
  | some p=>obtain⟨x,e,s⟩:=p;rfl
def kE (Q:Ex→Env→St→Prop) (e:Env) (s:St):Prop:=Q .norm e s
@[go_sem] theorem Zaip (Q:Ex→Env→St→Prop) (s:St):kE Q e s=Q .norm e s:=rfl
@[go_sem] theorem Zafw (r:Option (Env×St)) (Q:Ex→Env→St→Prop):Res (Zyr r) Q=Zav r (kE Q):=by
  cases r <;> rfl
def kOps (call:Qx) (l:List MI) (K:Env→St→Prop) (e:Env) (s:St):Prop:=Zav (Ko call l e s) K
@[go_sem] theorem Zaat (call:Qx) (l:List MI) (K:Env→St→Prop) (s:St):kOps call l K e s=Zav (Ko call l e s) K:=rfl
@[go_sem] theorem Zae3 (call:Qx) (l:List MI) (r:Option (Env×St)) (K:Env→St→Prop):Zav (opsR call l r) K=Zav r (kOps call l K):=by
  cases r <;> rfl
def kPut (d:Option Nat) (e:Env) (K:Env→St→Prop) (v:AV) (s:St):Prop:=K (Vm e d v) s
@[go_sem] theorem Zaav (d:Option Nat) (K:Env→St→Prop) (v:AV) (s:St):kPut d e K v s=K (Vm e d v) s:=rfl
@[go_sem] theorem Zafu (d:Option Nat) (r:Option (AV×St)) (K:Env→St→Prop):Zav (miR d e r) K=Qt r (kPut d e K):=by
  cases r <;> rfl
def IRes (r:Option (Env×St×Nat)) (Q:Env→St→Nat→Prop):Prop:=match r with | some (e,s,n)=>Q e s n | none=>False
@[go_sem] theorem Zae1 (s:St) (n:Nat) (Q:Env→St→Nat→Prop):IRes (some (e,s,n)) Q=Q e s n:=rfl
def kR (call:Qx) (d:List (Nat×MI)) (l:List RI) (K:Env→St→Prop) (e:Env) (s:St) (nm:Nat):Prop:=Zav (G2 call d nm l e s) K
@[go_sem] theorem Zagu (call:Qx) (d:List (Nat×MI)) (l:List RI) (K:Env→St→Prop) (s:St) (nm:Nat):kR call d l K e s nm=Zav (G2 call d nm l e s) K:=rfl
@[go_sem] theorem Zahd (call:Qx) (d:List (Nat×MI)) (nm:Nat) (s:St):G2 call d nm [] e s=some (e,s):=rfl
@[go_sem] theorem Zahx (call:Qx) (d:List (Nat×MI)) (nm i:Nat) (o:MI) (l:List RI) (s:St) (K:Env→St→Prop):
   Zav (G2 call d nm (.op i o::l) e s) K=IRes (G9 call nm o e s) (kR call ((i,o)::d) l K):=by
  simp only[G2]
  cases G9 call nm o e s with
  | none=>rfl
  | some p=>obtain⟨e,s,n⟩:=p;rfl
@[go_sem] theorem Zahy (call:Qx) (d:List (Nat×MI)) (nm i:Nat) (l:List RI) (s:St) (K:Env→St→Prop):
   Zav (G2 call d nm (.re i::l) e s) K=(reI d i e s=true∧Zav (G2 call d nm l e s) K):=by
  simp only[G2]
  by_cases h:reI d i e s=true
  ·simp[h]
  ·simp[h,Zav]
@[go_sem] theorem Zado (j i:Nat) (o:MI) (r:List (Nat×MI)):Zbw ((j,o)::r) i=if j=i then some o else Zbw r i:=rfl
def iR (nm:Nat) (d:Option Nat) (e:Env):Option (AV×St)→Option (Env×St×Nat)
 | some (v,s)=>some (Vm e d v,s,nm)
 | none=>none
def Zuz (nm:Nat) (d:Option Nat) (e:Env) (Q:Env→St→Nat→Prop) (v:AV) (s:St):Prop:=Q (Vm e d v) s nm
@[go_sem] theorem Zyg (nm:Nat) (d:Option Nat) (Q:Env→St→Nat→Prop) (v:AV) (s:St):Zuz nm d e Q v s=Q (Vm e d v) s nm:=rfl
@[go_sem] theorem Zaho (nm:Nat) (d:Option Nat) (r:Option (AV×St)) (Q:Env→St→Nat→Prop):IRes (iR nm d e r) Q=Qt r (Zuz nm d e Q):=by
  cases r <;> rfl
@[go_sem] theorem Zaib (call:Qx) (nm:Nat) (d:Option Nat) (p:PO) (s:St):G9 call nm ⟨d,none,.p p⟩ e s=iR nm d e (MO.run call (AO.ev e) s (.p p)):=by
  simp only[G9,wanted];cases MO.run call (AO.ev e) s (.p p) <;> rfl
@[go_sem] theorem Zaic (call:Qx) (nm:Nat) (d:Option Nat) (p:RO) (s:St):G9 call nm ⟨d,none,.r p⟩ e s=iR nm d e (MO.run call (AO.ev e) s (.r p)):=by
  simp only[G9,wanted];cases MO.run call (AO.ev e) s (.r p) <;> rfl
@[go_sem] theorem Zaid (call:Qx) (nm:Nat) (d:Option Nat) (p:WO) (s:St):G9 call nm ⟨d,none,.w p⟩ e s=iR nm d e (MO.run call (AO.ev e) s (.w p)):=by
  simp only[G9,wanted];cases MO.run call (AO.ev e) s (.w p) <;> rfl
@[go_sem] theorem Zaia (call:Qx) (nm:Nat) (d:Option Nat) (p:NO) (s:St):G9 call nm ⟨d,none,.n p⟩ e s=(NO.run (AO.ev e) nm p).map fun q=>(Vm e d q.1,⟨(nm,q.2)::s.h,s.nx⟩,nm+1):=by
  simp only[G9,wanted];cases NO.run (AO.ev e) nm p <;> rfl
def igR (call:Qx) (nm:Nat) (d:Option Nat) (b:Bool) (o:MO) (e:Env) (s:St):AV→Option (Env×St×Nat)
 | .bool c=>if c=b then G9 call nm ⟨d,none,o⟩ e s else some (Vm e d Hz,s,nm)
 | .tuple _=>some (Vm e d Hz,s,nm)
 | _=>none
@[go_sem] theorem Zags (call:Qx) (nm:Nat) (d:Option Nat) (b c:Bool) (o:MO) (s:St):igR call nm d b o e s (.bool c)=if c=b then G9 call nm ⟨d,none,o⟩ e s else some (Vm e d Hz,s,nm):=rfl
@[go_sem] theorem Zafa (call:Qx) (nm:Nat) (d:Option Nat) (b:Bool) (o:MO) (l:List AV) (s:St):igR call nm d b o e s (.tuple l)=some (Vm e d Hz,s,nm):=rfl
@[go_sem] theorem Zael (call:Qx) (nm:Nat) (d:Option Nat) (t:Nat) (b:Bool) (o:MO) (s:St):G9 call nm ⟨d,some (t,b),o⟩ e s=igR call nm d b o e s (Zl e t):=by
  simp only[G9,wanted]
  cases hv:Zl e t with
  | bool c=>
    simp only[igR]
    cases hcb:c == b with
    | true=>
      rw[if_pos (by simpa using hcb)]
      simp only[G9,wanted]
    | false=>rw[if_neg (by simpa using hcb)]
  | _=>rfl
mutual
theorem Cl:∀a:AV,Vg a a=true
 | .bot | .J8 | .Zc | .Vi | .Jx | .K6=>rfl
 | .bool b=>by simp[Vg]
 | .int k n=>by simp[Vg]
 | .str s=>by simp only[Vg];exact G5.2 rfl
 | .ptr n o=>by simp[Vg]
 | .slice n o l c=>by simp[Vg]
 | .map n=>by simp[Vg]
 | .fn f a b=>by simp[Vg,C6 a,C6 b]
 | .yield l=>by simp[Vg]
 | .iface t v=>by simp[Vg,Cl v]
 | .agg a=>by simp[Vg,C6 a]
 | .tuple a=>by simp[Vg,C6 a]
theorem C6:∀a:List AV,Hb a a=true
 | []=>rfl
 | x::a=>by simp[Hb,Cl x,C6 a]
end
attribute [go_sem] Cl
theorem Og {h:Heap} {n o ty:Nat} {loc:Bool} {cs:List AV} {v:AV} (hg:Zh h n=some (.cells ty loc cs)) (hv:v.sc=true) (ho:o<cs.length):Jy h n o [v]=some (Z7 h n (.cells ty loc (cs.set o v))):=by
 simp only[Jy,hg,List.length_singleton,List.all_cons,List.all_nil,hv,Bool.and_self,and_true,Qd]
 rw[if_pos (by omega)]
theorem Zaey {h:Heap} {n o ty es:Nat} {cs:List AV} {v:AV} (hg:Zh h n=some (.buf ty es cs)) (hv:v.sc=true) (ho:o<cs.length):Jy h n o [v]=some (Z7 h n (.buf ty es (cs.set o v))):=by
 simp only[Jy,hg,List.length_singleton,List.all_cons,List.all_nil,hv,Bool.and_self,and_true,Qd]
 rw[if_pos (by omega)]
@[go_sem] theorem Zac9 (k:IntKind) (n:Int):Yg (.int k n)=[.int k n]:=rfl
@[go_sem] theorem Zaca (b:Bool):Yg (.bool b)=[.bool b]:=rfl
@[go_sem] theorem Zzz (n o l:Nat) (c:Cap):Yg (.slice n o l c)=[.slice n o l c]:=rfl
@[go_sem] theorem Zadb:Yg .Zc=[.Zc]:=rfl
@[go_sem] theorem Zadd (s:List UInt8):Yg (.str s)=[.str s]:=rfl
@[go_sem] theorem Zadc (n o:Nat):Yg (.ptr n o)=[.ptr n o]:=rfl
@[go_sem] theorem Zac8 (cs:List AV):Yg (.agg cs)=cs:=rfl
@[go_sem] theorem Zaie (k:IntKind) (n:Int):(AV.int k n).sc=true:=rfl
@[go_sem] theorem Zah0 (b:Bool):(AV.bool b).sc=true:=rfl
@[go_sem] theorem Zahk (n o l:Nat) (c:Cap):(AV.slice n o l c).sc=true:=rfl
@[go_sem] theorem Zaig:AV.Zc.sc=true:=rfl
@[go_sem] theorem Zaii (s:List UInt8):(AV.str s).sc=true:=rfl
@[go_sem] theorem Zaih (n o:Nat):(AV.ptr n o).sc=true:=rfl
theorem Qt.elim {r:Option (AV×St)} {Q:AV→St→Prop} (h:Qt r Q):∃v s,r=some (v,s)∧Q v s:=by
 unfold Qt at h
 split at h
 ·exact⟨_,_,rfl,h⟩
 ·exact h.elim
theorem Qt.mono {r:Option (AV×St)} {Q R:AV→St→Prop} (h:Qt r Q) (hq:∀v s,Q v s→R v s):Qt r R:=by
 obtain⟨v,s,rfl,h⟩:=h.elim
 exact hq _ _ h
def Z9 (T:Tab) (st:St) (f:AV) (args:List AV) (v:AV):Prop:=Qt (call T f args st) fun v' s=>v'=v∧Ext st s
theorem Z9.use {f:AV} {args:List AV} {v:AV} {Q:AV→St→Prop} (h:Z9 T st f args v) (hq:∀s,Ext st s→Q v s):Qt (call T f args st) Q:=
 Qt.mono h (by rintro v' s ⟨rfl,hx⟩;exact hq s hx)
theorem Zw {k:Nat} {mf:Qa} (hen:T.en k=none) (hf:T.fn k=some mf) {first args cap:List AV} (hl:(first++args++cap).length=mf.Zg7) {Q:AV→St→Prop}
  (hr:Res (run T mf.body (V0 0 (first++args++cap)) st) fun x e s=>(x= .norm∨x= .ret)∧∃v,Zt s.h e mf.results=some v∧Q v ⟨Zb st.nx s.h,s.nx⟩):
  Qt (call T (.fn k first cap) args st) Q:=by
 obtain⟨x,e,s,h1,h2,v,h3,h4⟩:=hr.elim
 rw[Zun hen hf hl,h1]
 rcases h2 with rfl | rfl <;> simp only[Zp9,h3,Option.map_some,Zvh] <;> exact h4
theorem Zm {k:Nat} {mf:Qa} (hen:T.en k=none) (hf:T.fn k=some mf) {first args cap:List AV} (hl:(first++args++cap).length=mf.Zg7) {v:AV}
  (hr:Res (run T mf.body (V0 0 (first++args++cap)) st) fun x e s=>(x= .norm∨x= .ret)∧Zt s.h e mf.results=some v∧Ext st s):
  Z9 T st (.fn k first cap) args v:=
 Zw hen hf hl (hr.mono fun _ _ _ ⟨h1,h2,h3⟩=>⟨h1,v,h2,rfl,h3.Zb⟩)
theorem Zav.elim {r:Option (Env×St)} {Q:Env→St→Prop} (h:Zav r Q):∃e s,r=some (e,s)∧Q e s:=by
 unfold Zav at h
 split at h
 ·exact⟨_,_,rfl,h⟩
 ·exact h.elim
theorem St.Wf.del (h:st.Wf) (n:Nat):St.Wf ⟨Ub st.h n,st.nx⟩:=⟨fun m o ho=>by
  rw[Kj]at ho
  split at ho
  ·cases ho
  ·exact h.lt m o ho,h.nd.sublist Zd9⟩
@[go_sem] theorem Zaam (h:Heap) (t:Nat):Zt h e [.t t]=some (Zl e t):=rfl
@[go_sem] theorem Zzp (h:Heap):Zt h e []=some (.tuple []):=rfl
@[go_sem] theorem Zaan (h:Heap) (t u:Nat):Zt h e [.t t,.t u]=some (.tuple [Zl e t,Zl e u]):=rfl
@[go_sem] theorem Zx6 (h:Heap) (t u v:Nat):Zt h e [.t t,.t u,.t v]=some (.tuple [Zl e t,Zl e u,Zl e v]):=rfl
attribute [go_sem] Zde O4 V0 List.getElem?_cons_zero List.getElem?_cons_succ
end Go.Ev

/- From the evaluator's word on a law to the model's. -/
namespace Go.Ev
open Go Go.RowKit
variable {X : Cx} {T : Tab}
theorem Zv7 (hT:Zdd Lt X T) (hmix:X.P.follows .mixedOrders=true) {k:Nat} {mf:Qa} (hen:T.en k=none) (hf:T.fn k=some mf) {args:List AV} {st:St} {N:Nu} {w:World} {us:List Value} (hl:args.length=mf.Zg7)
  (h:Qt (call T (.fn k [] []) args st) fun v _=>v= .bool true) (hr:SR Lt X N st w) (ha:VRs X N args us) (hown:∀b,¬Own N st.h b):
  Calls X.P (X.φ k) us.toArray w fun e w'=>e= .returned (.bool true)∧Below w.heap.size w w':=by
 obtain⟨v,s,h1,rfl⟩:=h.elim
 rw[Zun hen hf (by simpa using hl)]at h1
 simp only[List.nil_append,List.append_nil]at h1
 cases hr2:run T mf.body (V0 0 args) st with
 | none=>rw[hr2]at h1;cases h1
 | some p=>
   obtain⟨x,e,s2⟩:=p
   rw[hr2]at h1
   obtain⟨n,hn⟩:=Wr.1 hr2
   have key:(x= .norm∨x= .ret)∧Zt s2.h e mf.results=some (.bool true):=by
    cases x with
    | norm=>
      refine⟨.inl rfl,?_⟩
      simp only[Zp9]at h1
      cases hv:Zt s2.h e mf.results with
      | none=>rw[hv]at h1;cases h1
      | some u=>rw[hv]at h1;simp only[Option.map_some,Option.some.injEq,Prod.mk.injEq]at h1;rw[h1.1]
    | ret=>
      refine⟨.inr rfl,?_⟩
      simp only[Zp9]at h1
      cases hv:Zt s2.h e mf.results with
      | none=>rw[hv]at h1;cases h1
      | some u=>rw[hv]at h1;simp only[Option.map_some,Option.some.injEq,Prod.mk.injEq]at h1;rw[h1.1]
    | _=>cases h1
   exact Zte (Zuu hT (Zadx hmix) n) hT hen hf hn key.1 key.2 hr ha hown
def Nu.none:Nu:=⟨fun _=>Option.none,fun _=>0⟩
theorem Zabt (n:Nat) (w:World):SR Lt X Nu.none ⟨[],n⟩ w:=⟨⟨(fun n o h=>by cases h),(fun n m o p a c h=>by cases h)⟩,fun _ _=>rfl⟩
theorem Zys (b:Nat):¬Own Nu.none [] b:=fun⟨n,o,a,h,_⟩=>by cases h
end Go.Ev

/- Short words for the printed bodies of functions. -/
namespace Go.Ev
open Go
instance (n:Nat):OfNat AO n:=⟨.t (OfNat.ofNat n)⟩
@[go_sem] theorem Zah2 (n:Nat):(OfNat.ofNat n:AO)= .t (OfNat.ofNat n):=rfl
@[go_sem] theorem Zafs {st:St} (call:Qx) (ev:AO→AV) (x:AO):MO.run call ev st (.w (.Sf x))=WO.run call ev st (.Sf x):=rfl
@[go_sem] theorem Zahs {st:St} (call:Qx) (ev:AO→AV) (t:Nat) (x y:AO):MO.run call ev st (.w (.Zmh t x y))=WO.run call ev st (.Zmh t x y):=rfl
namespace B
def p (d:Nat) (o:PO):MI:=⟨some d,none,.p o⟩
def r (d:Nat) (o:RO):MI:=⟨some d,none,.r o⟩
def n (d:Nat) (o:NO):MI:=⟨some d,none,.n o⟩
def w (d:Nat) (o:WO):MI:=⟨some d,none,.w o⟩
def p0 (o:PO):MI:=⟨none,none,.p o⟩
def r0 (o:RO):MI:=⟨none,none,.r o⟩
def n0 (o:NO):MI:=⟨none,none,.n o⟩
def w0 (o:WO):MI:=⟨none,none,.w o⟩
def pg (d t:Nat) (b:Bool) (o:PO):MI:=⟨some d,some (t,b),.p o⟩
def rg (d t:Nat) (b:Bool) (o:RO):MI:=⟨some d,some (t,b),.r o⟩
def ng (d t:Nat) (b:Bool) (o:NO):MI:=⟨some d,some (t,b),.n o⟩
def wg (d t:Nat) (b:Bool) (o:WO):MI:=⟨some d,some (t,b),.w o⟩
def ph (t:Nat) (b:Bool) (o:PO):MI:=⟨none,some (t,b),.p o⟩
def rh (t:Nat) (b:Bool) (o:RO):MI:=⟨none,some (t,b),.r o⟩
def nh (t:Nat) (b:Bool) (o:NO):MI:=⟨none,some (t,b),.n o⟩
def wh (t:Nat) (b:Bool) (o:WO):MI:=⟨none,some (t,b),.w o⟩
attribute [go_sem] p r n w p0 r0 n0 w0 pg rg ng wg ph rh nh wh
end B
end Go.Ev
