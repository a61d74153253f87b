/- The evaluator's code does what the model's machine does. -/
import Derived.Test.YtdlhjfmakdbmkaaGreatDoorP02
import Derived.Orders
import Derived.Below
set_option linter.unusedSimpArgs false
set_option linter.unusedVariables false
set_option linter.unusedSectionVars false
namespace Go.Ev
open Go
variable {X : Cx} {N N' N'' : Nu} {D : ChkD}
section
variable {P : Program} {b : Frame} {t : Array Value} {d : List Deferred} {k : List Item} {cs : List Frame} {w : World}
def rfWorld (w:World) (fn:FuncId) (t:Array Value) (ps:Array Tmp) (as bd:Code):World:=
 {w with heap:=(w.heap.push (.deferred (some []))).push (.loop {state:= .ready,pending:=none,fn,tmps:=t,params:=ps,assign:=as,body:=bd,defers:=w.heap.size})}
theorem rf_sem (f:Operand) (l:Nat) (b:Frame) (t:Array Value) (d:List Deferred) (todo:List Item):
  (do let dd←resolve (Fr b t d todo).eval {callee:= .value f,args:= #[.const (.func (.yield l) #[] #[])],argTypes:= #[]} 0;invoke dd.target dd.args:Sem Next)=callSem (evT t f) #[.func (.yield l) #[] #[]]:=by
 rw[Fr_eval]
 simp[resolve,callSem,evT]
theorem rf_enter {ps:Array Tmp} {as bd:Code}:
  (Instr.enterLoop b.fn t ps as bd none).run P w= .ok (w.heap.size+1,[{target:= .collected w.heap.size,args:= #[]}]) (rfWorld w b.fn t ps as bd):=by
 simp[Instr.enterLoop,rfWorld]
 rfl
theorem frG_rangeFunc {f:Operand} {ps:Array Tmp} {as bd:Code} (hb:b.roundOf=none):
  (stepG P true {frame:=Fr b t d (.code (.rangeFunc f ps as bd)::k),callers:=cs,status:= .running,dying:=none} w).bare=
    (stepG.apply P true (Fr b t ({target:= .collected w.heap.size,args:= #[]}::d) (.inRangeFunc (w.heap.size+1)::k)) cs none
      (callSem (evT t f) #[.func (.yield (w.heap.size+1)) #[] #[]]) (rfWorld w b.fn t ps as bd)).bare:=by
 have hs:=rf_sem f (w.heap.size+1) b t ({target:= .collected w.heap.size,args:= #[]}::d) (.inRangeFunc (w.heap.size+1)::k)
 have he:=rf_enter (P:=P) (b:=b) (t:=t) (w:=w) (ps:=ps) (as:=as) (bd:=bd)
 simp only[Fr,hb]at hs
 simp only[stepG,stepG.exec,Fr,hb,Sem.runT_eq,he,GStep.bare_after,List.singleton_append,hs]
theorem fr_rangeFunc {f:Operand} {ps:Array Tmp} {as bd:Code} (hb:b.roundOf=none) {u:Value} {w':World}
  (hc:CallsTo P (callSem (evT t f) #[.func (.yield (w.heap.size+1)) #[] #[]]) (rfWorld w b.fn t ps as bd) (Fr b t ({target:= .collected w.heap.size,args:= #[]}::d) (.inRangeFunc (w.heap.size+1)::k)) cs u w'):
  Steps P (lone (Fr b t d (.code (.rangeFunc f ps as bd)::k)) cs w) (lone (Fr b t ({target:= .collected w.heap.size,args:= #[]}::d) (.endRangeFunc (w.heap.size+1)::k)) cs w'):=by
 obtain⟨nx,w1,hrun,h⟩:=hc
 have hg:=frG_rangeFunc (P:=P) (d:=d) (k:=k) (cs:=cs) (w:=w) (f:=f) (ps:=ps) (as:=as) (bd:=bd) (t:=t) hb
 have hfin:(Fr b t ({target:= .collected w.heap.size,args:= #[]}::d) (.inRangeFunc (w.heap.size+1)::k)).finish u=Fr b t ({target:= .collected w.heap.size,args:= #[]}::d) (.endRangeFunc (w.heap.size+1)::k):=rfl
 rcases h with ⟨hu,rfl⟩ | ⟨g,us,rfl,hst⟩ | ⟨l,g,us,a,e,rfl,hst⟩
 ·refine .one (step_lone_go ?_)
  rw[hg,←hfin]
  cases nx <;> simp only[outOf]at hu <;> first | (cases hu;done) | skip
  ·cases hu;simp[stepG.apply,hrun]
  ·cases hu;simp[stepG.apply,hrun]
 ·rw[←hfin]
  refine .head (step_lone_go ?_) hst
  rw[hg]
  simp[stepG.apply,hrun,Fr]
 ·rw[←hfin]
  refine .head (step_lone_go ?_) hst
  rw[hg]
  simp[stepG.apply,hrun,Fr]
theorem fr_endRangeFunc {l:Nat} {r:Loop} (hl:w.heap[l]? =some (.loop r)) (hr:r.state≠.busy):
  step P (lone (Fr b t d (.endRangeFunc l::k)) cs w)= .next (lone (Fr b t d ((r.pending.map Item.code).toList++k)) cs {w with heap:=w.heap.setIfInBounds l (.loop {r with state:= .exhausted})}):=by
 refine step_lone_go ?_
 have he:(Instr.endLoop l).run P w= .ok r.pending {w with heap:=w.heap.setIfInBounds l (.loop {r with state:= .exhausted})}:=by
  simp[Instr.endLoop,Instr.getLoop,getObj,setObj,Sem.run,hl,hr]
 simp[stepG,stepG.exec,Fr,he]
end
def DrawOK (D:ChkD) (X:Cx):Prop:=
 ∀call,CallOK D X call→∀S ops is e st e' st',runR call [] st.nx is e ⟨st.h,st.nx+is.length⟩=some (e',st')→D X S is ops=true→
  ∀N b t d k cs w tt,EnvR X N e t→S≤t.size→SR D X N st w→
   ∃N' t' w',EnvR X N' e' t'∧t'.size=t.size∧SR D X N' st' w'∧Gd N st.h w N' st'.h w'∧st.nx≤st'.nx∧(∀n,n<st.nx→N'.ρ n=N.ρ n)∧
    Steps X.P (lone (Fr b t d (.inRegion ops (Region.schedule (X.P.follows .mixedOrders) ops tt)::k)) cs w) (lone (Fr b t' d (.inRegion ops []::k)) cs w')
theorem rf_world {S:Nat} {e:Env} {st:St} {t:Array Value} {w:World} {ps:Array Nat} {as bd:MCode} {asC bdC:Code} {fn:FuncId} (hr:SR D X N st w) (he:EnvR X N e t) (hs:S≤t.size)
  (hps:∀p∈ps.toList,p<S) (h1:noRF as=true) (h2:noRF bd=true) (h3:chkC D X S as asC=true) (h4:chkC D X S bd bdC=true):
  ∃N',SR D X N' ⟨(st.nx,.loop .ready e ps.toList as bd)::st.h,st.nx+1⟩ (rfWorld w fn t ps asC bdC)∧Gd N st.h w N' ((st.nx,.loop .ready e ps.toList as bd)::st.h) (rfWorld w fn t ps asC bdC)∧
   N'.ρ st.nx=some ⟨w.heap.size+1,0,none⟩∧∀n,n<st.nx→N'.ρ n=N.ρ n:=by
 have hn:=hr.fresh st.nx (Nat.le_refl _)
 let w1:World:={w with heap:=w.heap.push (.deferred (some []))}
 have hr1:HR D X N st.h w1:=⟨fun n o ho=>(hr.hr.objs n o ho).keep (.refl N) (by simp[w1]) (fun a ha=>heap_push_lt w _ ((hr.hr.objs n o ho).lt ha)),hr.hr.sep⟩
 have g1:Gd N st.h w N st.h w1:=⟨.refl N,by simp[w1],rfl,rfl,rfl,fun b hb _=>heap_push_lt w _ hb,fun n o a h1 h2=> .inl ⟨n,o,a,h1,h2,rfl,id⟩⟩
 have hsz:w1.heap.size=w.heap.size+1:=by simp[w1]
 obtain⟨a1,a2⟩:=hr1.new (n:=st.nx) (k:=0) (obj:= .loop {state:= .ready,pending:=none,fn,tmps:=t,params:=ps,assign:=asC,body:=bdC,defers:=w.heap.size})
  (o:= .loop .ready e ps.toList as bd) hn
  ⟨w1.heap.size,_,S,by simp[Nu.add],by simp;rfl,⟨rfl,rfl⟩,he.mono (Nu.le_add hn),rfl,hs,hps,h1,h2,h3,h4⟩
 rw[hsz]at a1 a2
 refine⟨_,⟨a1,fun n hn'=> ?_⟩,g1.trans a2,by simp[Nu.add],fun n hlt=>by simp[Nu.add,Nat.ne_of_lt hlt]⟩
 have:n≠st.nx:=by simp only at hn';omega
 simp only[Nu.add,if_neg this]
 exact hr.fresh n (by simp only at hn';omega)
theorem evStep_ok {ex:ExF} {T:Tab} (hx:CodeOK D X ex) (hT:TabOK D X T) (hD:DrawOK D X):CodeOK D X (evStep T ex):=by
 intro c code S e st x e' st' hv hc N b t d k cs w B he hs hr hd hB hrf
 have hcall:=evCall_sound hx hT
 unfold chkC at hc
 split at hc <;> (first | (cases hc;done) | skip) <;> (try simp only[bool_and,beq_iff_eq,List.all_eq_true,decide_eq_true_eq]at hc)
 ·
  simp only[evStep]at hv
  obtain⟨N',t',d',w',a1,a2,a3,a4,a5,a6,a7,a8,a9⟩:=hx _ _ S _ _ _ _ _ hv hc N b t d k cs w B (he.keep _) hs hr hd hB (hrf.imp id (fun h=>by simpa [noRF] using h))
  exact⟨N',t',d',w',a1,a2,a3,a4,a5,a6,a7,fun h=>a8 (by simpa [noRF] using h),a9⟩
 ·
  simp only[evStep]at hv
  cases hv
  exact⟨N,t,d,w,he,rfl,hr,.refl _ _ _,Nat.le_refl _,fun _ _=>rfl,hd,fun _=>rfl,fun M hM=> .one (hM.trans fr_skip)⟩
 ·simp only[evStep]at hv
  cases hv
  exact⟨N,t,d,w,he,rfl,hr,.refl _ _ _,Nat.le_refl _,fun _ _=>rfl,hd,fun _=>rfl,fun M hM=> .one (hM.trans fr_label)⟩
 ·
  rename_i is i os
  simp only[evStep]at hv
  split at hv
  ·rename_i e1 st1 hops
   cases hv
   obtain⟨N',t',w',a1,a2,a3,a4,a5,a6,a7⟩:=ops_sound hcall b d k cs is 0 os.toList N e e' st st' t w hops hc (by simp) he hs hr
   refine⟨N',t',d,w',a1,a2,a3,a4,a5,a6,hd.keep hr.hr a4,fun _=>rfl,fun M hM=> ?_⟩
   simp only[Array.length_toList]at a7
   rw[←List.range_eq_range']at a7
   exact .head (hM.trans fr_region) (Steps.trans a7 (.one fr_region_end))
  ·cases hv
 ·
  rename_i is i os
  simp only[evStep]at hv
  split at hv
  ·rename_i e1 st1 hops
   cases hv
   have hr0:SR D X N st {w with drawn:=w.drawn+1}:=⟨hr.hr.drawn _,hr.fresh⟩
   obtain⟨N',t',w',a1,a2,a3,a4,a5,a6,a7⟩:=hD _ hcall S os is e st e' st' hops hc N b t d k cs {w with drawn:=w.drawn+1} (w.tape w.drawn (.order b.fn i)) he hs hr0
   have g:=(Gd.drawn N st.h w (w.drawn+1)).trans a4
   exact⟨N',t',d,w',a1,a2,a3,g,a5,a6,hd.keep hr.hr g,fun _=>rfl,fun M hM=> .head (hM.trans fr_region_draw) (Steps.trans a7 (.one fr_region_end))⟩
  ·cases hv
 ·
  rename_i a b1 c1 d1 hnk
  have hrfa:b.roundOf=none∨noRF a=true:=hrf.imp id (fun h=>by simp only[noRF,bool_and]at h;exact h.1)
  have hrfb:b.roundOf=none∨noRF b1=true:=hrf.imp id (fun h=>by simp only[noRF,bool_and]at h;exact h.2)
  have hnrf:noRF (.seq a b1)=true→noRF a=true∧noRF b1=true:=fun h=>by simpa [noRF] using h
  have hv':(match ex a e st with | some (.norm,e,st)=>ex b1 e st | r=>r)=some (x,e',st'):=by
   unfold evStep at hv
   split at hv <;> first | (exfalso;rename_i heq;cases heq;done) | skip
   ·rename_i heq
    cases heq
    exact(hnk _ rfl).elim
   ·rename_i heq
    cases heq
    exact hv
  have first:∀x1 e1 st1,ex a e st=some (x1,e1,st1)→∃N' t' d' w',EnvR X N' e1 t'∧t'.size=t.size∧SR D X N' st1 w'∧Gd N st.h w N' st1.h w'∧st.nx≤st1.nx∧(∀n,n<st.nx→N'.ρ n=N.ρ n)∧DefOK B d' w'∧
    (noRF a=true→d'=d)∧∀M,step X.P M=step X.P (lone (Fr b t d (.code (.seq c1 d1)::k)) cs w)→OutM X.P b (.code d1::k) cs M t' d' w' x1:=by
   intro x1 e1 st1 h1
   obtain⟨N',t',d',w',a1,a2,a3,a4,a5,a6,a7,a8,a9⟩:=hx _ _ S _ _ _ _ _ h1 hc.1 N b t d (.code d1::k) cs w B he hs hr hd hB hrfa
   refine⟨N',t',d',w',a1,a2,a3,a4,a5,a6,a7,a8,fun M hM=> ?_⟩
   have a9:=a9 _ rfl
   cases x1 with
   | norm=>exact .head (hM.trans fr_seq) a9
   | exit i=>obtain⟨k2,M',g1,g2,g3⟩:=a9;exact⟨k2,M',g1,.head (hM.trans fr_seq) g2,g3⟩
   | ret=>obtain⟨k2,M',g2,g3⟩:=a9;exact⟨k2,M',.head (hM.trans fr_seq) g2,g3⟩
  split at hv'
  ·rename_i e1 st1 h1
   obtain⟨N1,t1,d1',w1,a1,a2,a3,a4,a5,a6,a7,a8,a9⟩:=first _ _ _ h1
   obtain⟨N2,t2,d2,w2,b1',b2,b3,b4,b5,b6,b7,b8,b9⟩:=hx _ _ S _ _ _ _ _ hv' hc.2 N1 b t1 d1' k cs w1 B a1 (by omega) a3 a7 (Nat.le_trans hB a4.size) hrfb
   refine⟨N2,t2,d2,w2,b1',by omega,b3,a4.trans b4,by omega,fun n hn=>by rw[b6 n (by omega),a6 n hn],b7,fun h=>by rw[b8 (hnrf h).2,a8 (hnrf h).1],fun M hM=> ?_⟩
   have a9:=a9 M hM
   have b9:=b9 _ rfl
   simp only[OutM]at a9
   cases x with
   | norm=>exact Steps.trans a9 b9
   | exit i=>obtain⟨k2,M',g1,g2,g3⟩:=b9;exact⟨k2,M',g1,Steps.trans a9 g2,g3⟩
   | ret=>obtain⟨k2,M',g2,g3⟩:=b9;exact⟨k2,M',Steps.trans a9 g2,g3⟩
  ·rename_i hne
   obtain⟨N1,t1,d1',w1,a1,a2,a3,a4,a5,a6,a7,a8,a9⟩:=first _ _ _ hv'
   refine⟨N1,t1,d1',w1,a1,a2,a3,a4,a5,a6,a7,fun h=>a8 (hnrf h).1,fun M hM=> ?_⟩
   have a9:=a9 M hM
   cases x with
   | norm=>exact(hne _ _ hv').elim
   | exit i=>obtain⟨k2,M',g1,g2,g3⟩:=a9;exact⟨k2,M',by rw[g1];rfl,g2,g3⟩
   | ret=>exact a9
 ·
  rename_i xo a b1 yo c1 d1
  have h1:=evs_of he _ _ hc.1
  simp only[evStep]at hv
  split at hv
  ·rename_i hb
   rw[hb]at h1
   simp only[VR]at h1
   obtain⟨N',t',d',w',a1,a2,a3,a4,a5,a6,a7,a8,a9⟩:=hx _ _ S _ _ _ _ _ hv hc.2.1 N b t d k cs w B he hs hr hd hB (hrf.imp id (fun h=>by simp only[noRF,bool_and]at h;exact h.1))
   refine⟨N',t',d',w',a1,a2,a3,a4,a5,a6,a7,fun h=>a8 (by simp only[noRF,bool_and]at h;exact h.1),fun M hM=> ?_⟩
   have a9:=a9 _ rfl
   have hst:=fr_cond (P:=X.P) (b:=b) (d:=d) (k:=k) (cs:=cs) (w:=w) (x:=c1) (y:=d1) h1
   simp only[if_true]at hst
   cases x with
   | norm=>exact Steps.head (hM.trans hst) a9
   | exit i=>obtain⟨k2,M',g1,g2,g3⟩:=a9;exact⟨k2,M',g1,Steps.head (hM.trans hst) g2,g3⟩
   | ret=>obtain⟨k2,M',g2,g3⟩:=a9;exact⟨k2,M',Steps.head (hM.trans hst) g2,g3⟩
  ·rename_i hb
   rw[hb]at h1
   simp only[VR]at h1
   obtain⟨N',t',d',w',a1,a2,a3,a4,a5,a6,a7,a8,a9⟩:=hx _ _ S _ _ _ _ _ hv hc.2.2 N b t d k cs w B he hs hr hd hB (hrf.imp id (fun h=>by simp only[noRF,bool_and]at h;exact h.2))
   refine⟨N',t',d',w',a1,a2,a3,a4,a5,a6,a7,fun h=>a8 (by simp only[noRF,bool_and]at h;exact h.2),fun M hM=> ?_⟩
   have a9:=a9 _ rfl
   have hst:=fr_cond (P:=X.P) (b:=b) (d:=d) (k:=k) (cs:=cs) (w:=w) (x:=c1) (y:=d1) h1
   simp only[Bool.false_eq_true,if_false]at hst
   cases x with
   | norm=>exact Steps.head (hM.trans hst) a9
   | exit i=>obtain⟨k2,M',g1,g2,g3⟩:=a9;exact⟨k2,M',g1,Steps.head (hM.trans hst) g2,g3⟩
   | ret=>obtain⟨k2,M',g2,g3⟩:=a9;exact⟨k2,M',Steps.head (hM.trans hst) g2,g3⟩
  ·cases hv
 ·
  rename_i i b1 j c1
  obtain⟨rfl,hc⟩:=hc
  simp only[evStep]at hv
  have main:∀x1 e1 st1,ex b1 e st=some (x1,e1,st1)→∃N' t' d' w',EnvR X N' e1 t'∧t'.size=t.size∧SR D X N' st1 w'∧Gd N st.h w N' st1.h w'∧st.nx≤st1.nx∧(∀n,n<st.nx→N'.ρ n=N.ρ n)∧DefOK B d' w'∧
    (noRF b1=true→d'=d)∧∀M,step X.P M=step X.P (lone (Fr b t d (.code (.block i c1)::k)) cs w)→OutM X.P b (.inBlock i::k) cs M t' d' w' x1:=by
   intro x1 e1 st1 h1
   obtain⟨N',t',d',w',a1,a2,a3,a4,a5,a6,a7,a8,a9⟩:=hx _ _ S _ _ _ _ _ h1 hc N b t d (.inBlock i::k) cs w B he hs hr hd hB (hrf.imp id (fun h=>by simpa [noRF] using h))
   refine⟨N',t',d',w',a1,a2,a3,a4,a5,a6,a7,a8,fun M hM=> ?_⟩
   have a9:=a9 _ rfl
   cases x1 with
   | norm=>exact .head (hM.trans fr_block) a9
   | exit i=>obtain⟨k2,M',g1,g2,g3⟩:=a9;exact⟨k2,M',g1,.head (hM.trans fr_block) g2,g3⟩
   | ret=>obtain⟨k2,M',g2,g3⟩:=a9;exact⟨k2,M',.head (hM.trans fr_block) g2,g3⟩
  have hnrf:noRF (.block i b1)=true→noRF b1=true:=fun h=>by simpa [noRF] using h
  split at hv
  ·rename_i id' e1 st1 h1
   obtain⟨N1,t1,d1',w1,a1,a2,a3,a4,a5,a6,a7,a8,a9⟩:=main _ _ _ h1
   split at hv
   ·rename_i hid
    cases hv
    subst hid
    refine⟨N1,t1,d1',w1,a1,a2,a3,a4,a5,a6,a7,fun h=>a8 (hnrf h),fun M hM=> ?_⟩
    obtain⟨k2,M',g1,g2,g3⟩:=a9 M hM
    exact Steps.trans g2 (.one (g3.trans (fr_exit (by rw[g1];simp[exitTo]))))
   ·rename_i hid
    cases hv
    refine⟨N1,t1,d1',w1,a1,a2,a3,a4,a5,a6,a7,fun h=>a8 (hnrf h),fun M hM=> ?_⟩
    obtain⟨k2,M',g1,g2,g3⟩:=a9 M hM
    refine⟨k2,M',?_,g2,g3⟩
    rw[g1]
    have:(i == id')=false:=by simp;exact fun h=>hid h.symm
    simp[exitTo,this]
  ·rename_i hne
   obtain⟨N1,t1,d1',w1,a1,a2,a3,a4,a5,a6,a7,a8,a9⟩:=main _ _ _ hv
   refine⟨N1,t1,d1',w1,a1,a2,a3,a4,a5,a6,a7,fun h=>a8 (hnrf h),fun M hM=> ?_⟩
   have a9:=a9 M hM
   cases x with
   | norm=>exact Steps.trans a9 (.one fr_inBlock)
   | exit id'=>exact(hne _ _ _ hv).elim
   | ret=>exact a9
 ·
  rename_i b1 c1
  simp only[evStep]at hv
  have hrf1:b.roundOf=none∨noRF b1=true:=hrf.imp id (fun h=>by simpa [noRF] using h)
  have hnrf:noRF (.loop b1)=true→noRF b1=true:=fun h=>by simpa [noRF] using h
  have main:∀x1 e1 st1,ex b1 e st=some (x1,e1,st1)→∃N' t' d' w',EnvR X N' e1 t'∧t'.size=t.size∧SR D X N' st1 w'∧Gd N st.h w N' st1.h w'∧st.nx≤st1.nx∧(∀n,n<st.nx→N'.ρ n=N.ρ n)∧DefOK B d' w'∧
    (noRF b1=true→d'=d)∧∀M,step X.P M=step X.P (lone (Fr b t d (.code (.loop c1)::k)) cs w)→OutM X.P b (.inLoop c1::k) cs M t' d' w' x1:=by
   intro x1 e1 st1 h1
   obtain⟨N',t',d',w',a1,a2,a3,a4,a5,a6,a7,a8,a9⟩:=hx _ _ S _ _ _ _ _ h1 hc N b t d (.inLoop c1::k) cs w B he hs hr hd hB hrf1
   refine⟨N',t',d',w',a1,a2,a3,a4,a5,a6,a7,a8,fun M hM=> ?_⟩
   have a9:=a9 _ rfl
   cases x1 with
   | norm=>exact .head (hM.trans fr_loop) a9
   | exit i=>obtain⟨k2,M',g1,g2,g3⟩:=a9;exact⟨k2,M',g1,.head (hM.trans fr_loop) g2,g3⟩
   | ret=>obtain⟨k2,M',g2,g3⟩:=a9;exact⟨k2,M',.head (hM.trans fr_loop) g2,g3⟩
  split at hv
  ·rename_i e1 st1 h1
   obtain⟨N1,t1,d1',w1,a1,a2,a3,a4,a5,a6,a7,a8,a9⟩:=main _ _ _ h1
   obtain⟨N2,t2,d2,w2,b1',b2,b3,b4,b5,b6,b7,b8,b9⟩:=hx (.loop b1) (.loop c1) S _ _ _ _ _ hv (by simpa [chkC] using hc) N1 b t1 d1' k cs w1 B a1 (by omega) a3 a7 (Nat.le_trans hB a4.size) hrf
   refine⟨N2,t2,d2,w2,b1',by omega,b3,a4.trans b4,by omega,fun n hn=>by rw[b6 n (by omega),a6 n hn],b7,fun h=>by rw[b8 h,a8 (hnrf h)],fun M hM=> ?_⟩
   have b9:=b9 (lone (Fr b t1 d1' (.inLoop c1::k)) cs w1) (fr_inLoop.trans fr_loop.symm)
   have a9:=a9 M hM
   simp only[OutM]at a9
   cases x with
   | norm=>exact Steps.trans a9 b9
   | exit i=>obtain⟨k2,M',g1,g2,g3⟩:=b9;exact⟨k2,M',g1,Steps.trans a9 g2,g3⟩
   | ret=>obtain⟨k2,M',g2,g3⟩:=b9;exact⟨k2,M',Steps.trans a9 g2,g3⟩
  ·rename_i hne
   obtain⟨N1,t1,d1',w1,a1,a2,a3,a4,a5,a6,a7,a8,a9⟩:=main _ _ _ hv
   refine⟨N1,t1,d1',w1,a1,a2,a3,a4,a5,a6,a7,fun h=>a8 (hnrf h),fun M hM=> ?_⟩
   have a9:=a9 M hM
   cases x with
   | norm=>exact(hne _ _ hv).elim
   | exit i=>obtain⟨k2,M',g1,g2,g3⟩:=a9;exact⟨k2,M',by rw[g1];rfl,g2,g3⟩
   | ret=>exact a9
 ·
  rename_i b1 c1
  simp only[evStep]at hv
  obtain⟨N',t',d',w',a1,a2,a3,a4,a5,a6,a7,a8,a9⟩:=hx _ _ S _ _ _ _ _ hv hc N b t d (.inScope c1::k) cs w B he hs hr hd hB (hrf.imp id (fun h=>by simpa [noRF] using h))
  refine⟨N',t',d',w',a1,a2,a3,a4,a5,a6,a7,fun h=>a8 (by simpa [noRF] using h),fun M hM=> ?_⟩
  have a9:=a9 _ rfl
  cases x with
  | norm=>exact .head (hM.trans fr_scope) (Steps.trans a9 (.one fr_inScope))
  | exit i=>obtain⟨k2,M',g1,g2,g3⟩:=a9;exact⟨k2,M',by rw[g1];rfl,.head (hM.trans fr_scope) g2,g3⟩
  | ret=>obtain⟨k2,M',g2,g3⟩:=a9;exact⟨k2,M',.head (hM.trans fr_scope) g2,g3⟩
 ·
  rename_i f ps as bd g qs asC bdC
  obtain⟨hf,rfl,hps,h1,h2,h3,h4⟩:=hc
  have hb:b.roundOf=none:=hrf.elim id (fun h=>by simp[noRF]at h)
  simp only[evStep]at hv
  split at hv
  case h_2=>cases hv
  rename_i v1 st1 hcl
  obtain⟨N1,s1,s2,s3,s4⟩:=rf_world (fn:=b.fn) (ps:=qs) hr he hs hps h1 h2 h3 h4
  have hyl:VR X N1 (.yield st.nx) (.func (.yield (w.heap.size+1)) #[] #[]):=⟨_,s3,rfl⟩
  have hfv:VR X N1 (f.ev e) (evT t g):=evs_of (he.mono s2.le) _ _ hf
  obtain⟨N2,u,w2,c1,c2,c3,c4,c5,c6⟩:=hcall _ _ _ _ _ hcl N1 _ _ _ s1 hfv (VRs.one hyl) (Fr b t ({target:= .collected w.heap.size,args:= #[]}::d) (.inRangeFunc (w.heap.size+1)::k)) cs
  have hρ2:N2.ρ st.nx=some ⟨w.heap.size+1,0,none⟩:=(c3.le _ _ s3).1
  have hgd:Gd N st.h w N2 st1.h w2:=s2.trans c3
  have hsteps:=fr_rangeFunc (P:=X.P) (d:=d) (k:=k) (cs:=cs) (t:=t) hb c6
  have hd2:DefOK B ({target:= .collected w.heap.size,args:= #[]}::d) w2:=by
   have e1:DefOK B ({target:= .collected w.heap.size,args:= #[]}::d) (rfWorld w b.fn t qs asC bdC):=by
    obtain⟨rs,rfl,hn,hdr⟩:=hd
    refine⟨w.heap.size::rs,rfl,List.nodup_cons.2 ⟨fun hm=> ?_,hn⟩,fun r hr'=> ?_⟩
    ·have:=lt_of_get (hdr _ hm).2
     omega
    ·rcases List.mem_cons.1 hr' with rfl | hm
     ·refine⟨hB,?_⟩
      simp only[rfWorld]
      rw[Array.getElem?_push,if_neg (by simp),Array.getElem?_push,if_pos rfl]
     ·obtain⟨q1,q2⟩:=hdr _ hm
      have:=lt_of_get q2
      refine⟨q1,?_⟩
      simp only[rfWorld]
      rw[Array.getElem?_push,if_neg (by simp;omega),Array.getElem?_push,if_neg (by omega)]
      exact q2
   exact e1.keep s1.hr c3
  have fin:∀(lst:LSt) (env:Env) (ps':List Nat) (as' bd':MCode) (x':Ex),hget st1.h st.nx=some (.loop lst env ps' as' bd')→(∀s p,LStR lst s p→s≠.busy∧p=jumpOf x')→
    ∃N' t' d' w',EnvR X N' e t'∧t'.size=t.size∧SR D X N' ⟨hdel st1.h st.nx,st1.nx⟩ w'∧Gd N st.h w N' (hdel st1.h st.nx) w'∧st.nx≤st1.nx∧(∀n,n<st.nx→N'.ρ n=N.ρ n)∧DefOK B d' w'∧
     (noRF (.rangeFunc f qs.toList as bd)=true→d'=d)∧∀M,step X.P M=step X.P (lone (Fr b t d (.code (.rangeFunc g qs asC bdC)::k)) cs w)→OutM X.P b k cs M t' d' w' x':=by
   intro lst env ps' as' bd' x' hg hl
   obtain⟨bk,r,S1,i1,i2,i3,i4⟩:=loop_obj c2.hr hg
   rw[hρ2]at i1
   cases i1
   obtain⟨l1,l2⟩:=hl _ _ i3
   let w3:World:={w2 with heap:=w2.heap.setIfInBounds (w.heap.size+1) (.loop {r with state:= .exhausted})}
   have hne:∀q,q≠w.heap.size+1→w3.heap[q]? =w2.heap[q]? :=fun q hq=>by
    show (w2.heap.setIfInBounds _ _)[q]? =_
    rw[Array.getElem?_setIfInBounds,if_neg (fun e=>hq e.symm)]
   have hsub:∀m o,hget (hdel st1.h st.nx) m=some o→hget st1.h m=some o:=by
    intro m o ho
    rw[hget_hdel]at ho
    split at ho
    ·cases ho
    ·exact ho
   have hr3:HR D X N2 (hdel st1.h st.nx) w3:=by
    refine⟨fun n o ho=> ?_,(c2.hr.weaken hsub).sep⟩
    refine(c2.hr.objs n o (hsub n o ho)).keep (.refl _) (by simp[w3]) (fun a ha=>hne _ ?_)
    intro e
    have hnn:n≠st.nx:=by
     rintro rfl
     rw[hget_hdel,if_pos rfl]at ho
     cases ho
    exact hnn (c2.hr.sep st.nx n _ _ _ a hg (hsub n o ho) rfl hρ2 ha (by simpa using e.symm)).symm
   have hg3:Gd N st.h w N2 (hdel st1.h st.nx) w3:=
    ⟨hgd.le,by simpa [w3] using hgd.size,hgd.tape,hgd.os,hgd.output,fun q hq hn=>by rw[hne q (by omega)];exact hgd.frame q hq hn,fun n o a h1 h2=>hgd.has n o a (hsub _ _ h1) h2⟩
   refine⟨N2,t,{target:= .collected w.heap.size,args:= #[]}::d,w3,he.mono hgd.le,rfl,⟨hr3,c2.fresh⟩,hg3,by simp only at c4;omega,fun n hn=>by rw[c5 n (by simp only;omega),s4 n hn],?_,fun h=>by simp[noRF]at h,fun M hM=> ?_⟩
   ·obtain⟨rs,q1,q2,q3⟩:=hd2
    refine⟨rs,q1,q2,fun r' hr'=>⟨(q3 r' hr').1,?_⟩⟩
    rw[hne r' ?_]
    ·exact(q3 r' hr').2
    ·rintro rfl
     have:=(q3 _ hr').2
     rw[i2]at this
     cases this
   ·have hend:=fr_endRangeFunc (P:=X.P) (b:=b) (t:=t) (d:={target:= .collected w.heap.size,args:= #[]}::d) (k:=k) (cs:=cs) i2 l1
    have hp:(r.pending.map Item.code).toList=((jumpOf x').map Item.code).toList:=by rw[l2]
    rw[hp]at hend
    have hall:Steps X.P M (lone (Fr b t ({target:= .collected w.heap.size,args:= #[]}::d) (((jumpOf x').map Item.code).toList++k)) cs w3):=by
     have h0:Steps X.P (lone (Fr b t d (.code (.rangeFunc g qs asC bdC)::k)) cs w) (lone (Fr b t ({target:= .collected w.heap.size,args:= #[]}::d) (((jumpOf x').map Item.code).toList++k)) cs w3):=Steps.trans hsteps (.one hend)
     obtain⟨n,hn⟩:=h0
     cases n with
     | zero=>
       exfalso
       simp only[runN,Stepped.next.injEq]at hn
       have:=congrArg (fun m:Machine=>(m.gs[0]?).map (fun g=>g.frame.defers.length)) hn
       simp[lone,Fr]at this
     | succ n=>
       refine⟨n+1,?_⟩
       simp only[runN]at hn⊢
       rw[hM]
       exact hn
    cases x' with
    | norm=>exact hall
    | exit i=>exact⟨k,_,rfl,hall,rfl⟩
    | ret=>exact⟨k,_,hall,rfl⟩
  split at hv
  ·rename_i env ps' as' bd' hg
   cases hv
   exact fin _ _ _ _ _ .norm hg (fun s p h=>⟨by rw[h.1];simp,h.2⟩)
  ·rename_i x1 env ps' as' bd' hg
   cases hv
   exact fin _ _ _ _ _ x hg (fun s p h=>⟨by rw[h.1];simp,h.2⟩)
  ·cases hv
 ·
  simp only[evStep]at hv
  cases hv
  subst hc
  exact⟨N,t,d,w,he,rfl,hr,.refl _ _ _,Nat.le_refl _,fun _ _=>rfl,hd,fun _=>rfl,fun M hM=>⟨k,M,rfl,.refl _ _,hM⟩⟩
 ·
  simp only[evStep]at hv
  cases hv
  exact⟨N,t,d,w,he,rfl,hr,.refl _ _ _,Nat.le_refl _,fun _ _=>rfl,hd,fun _=>rfl,fun M hM=>⟨k,M,.refl _ _,hM⟩⟩
 ·
  rename_i pre mo dd nx more pair post ks out next body r1 os out1 r2 os2 c out2 next1 r3 os3 code
  obtain⟨rfl,rfl,rfl,rfl,h1,h2,h3,h4,h5,h6,h7,h8,h9,h10⟩:=hc
  simp only[evStep]at hv
  split at hv
  case h_2=>cases hv
  rename_i e1 st1 hpre
  split at hv
  case h_2=>cases hv
  rename_i n hmo
  split at hv
  case h_2=>cases hv
  rename_i es hmap
  split at hv
  case h_2=>cases hv
  rename_i hro
  cases hv
  obtain⟨N',t',w',a1,a2,a3,a4,a5,a6,a7,a8⟩:=rangeMap_ok (b:=b) (k:=k) (cs:=cs) (r1:=r1) (r2:=r2) (r3:=r3) hx hcall h1 h2 h3 h4 (by simpa using h5) (by simpa using h6) h7 h8 h9 h10 hpre hmo hmap hro he hs hr hd hB
  exact⟨N',t',d,w',a1,a2,a3,a4,a5,a6,a7,fun _=>rfl,a8⟩
 ·
  cases hv
theorem exec_ok {T:Tab} (hT:TabOK D X T) (hD:DrawOK D X):∀n,CodeOK D X (exec T n)
 | 0=>by intro c code S e st x e' st' hv;cases hv
 | n+1=>evStep_ok (exec_ok hT hD n) hT hD
end Go.Ev

/- What an operation looks at; it answers alike where that is alike. -/
namespace Go.Ev
open Go
def PO.aos:PO→List AO
 | .mov x | .un _ x | .conv _ x | .faddr _ x | .field _ _ x | .extr _ x | .lenOf _ x | .capOf x | .nilck x | .iface _ x | .same x | .sldata x | .r2s x=>[x]
 | .pick a b c=>[a,b,c]
 | .bin _ x y | .iaddrA _ _ x y | .iaddrS _ x y | .idxA _ _ _ x y | .idxS x y | .eqA _ _ x y | .eqB _ x y | .eqN _ _ x y=>[x,y]
 | .mkfn _ a b=>a++b
 | .build _ ps=>ps.map (·.2.2)
 | .subS x a b=>x::(a.toList++b.toList)
 | .subL _ x a b c | .subA _ _ x a b c=>x::(a.toList++(b.toList++c.toList))
 | .minmax _ xs=>xs
 | .konst _ | .stuck=>[]
def RO.aos:RO→List AO
 | .load _ x | .b2s x | .mlen x | .toU x | .ofU _ _ x=>[x]
 | .lookup _ _ _ m k=>[m,k]
 | .gaddr _ _ _ i=>[i]
def NO.aos:NO→List AO
 | .alloc .. | .mkMap=>[]
 | .box _ _ x | .s2b _ x | .rangeS x=>[x]
 | .buildSl _ _ _ ps=>ps.map (·.2.2)
 | .mkSl _ _ _ _ a b=>[a,b]
def WO.aos:WO→List AO
 | .store _ a x | .append _ _ _ _ a x | .copy _ a x=>[a,x]
 | .mput _ a b c=>[a,b,c]
 | .call f xs=>f::xs
 | .ustr _ p l=>[p,l]
 | .nextS x=>[x]
def MO.aos:MO→List AO
 | .p o=>o.aos
 | .r o=>o.aos
 | .n o=>o.aos
 | .w o=>o.aos
theorem afill_congr {e1 e2:AO→AV}:∀{ps:List (Nat×Nat×AO)} {cs:List AV},(∀a∈ps.map (·.2.2),e1 a=e2 a)→afill e1 cs ps=afill e2 cs ps
 | [],_,_=>rfl
 | (o,s,x)::ps,cs,h=>by
   have hx:e1 x=e2 x:=h x (by simp)
   simp only[afill,hx]
   split
   ·exact afill_congr (fun a ha=>h a (by simp only[List.map_cons,List.mem_cons];exact .inr ha))
   ·rfl
theorem opt_congr {e1 e2:AO→AV} {a:Option AO} (h:∀x∈a.toList,e1 x=e2 x):a.map e1=a.map e2:=by
 cases a with
 | none=>rfl
 | some x=>simp[h x (by simp)]
theorem PO.congr {e1 e2:AO→AV} {o:PO} (h:∀a∈o.aos,e1 a=e2 a):PO.run e1 o=PO.run e2 o:=by
 cases o with
 | mkfn f a b=>
   simp only[PO.aos,List.mem_append]at h
   simp only[PO.run]
   rw[List.map_congr_left (fun x hx=>h x (.inl hx)),List.map_congr_left (fun x hx=>h x (.inr hx))]
 | build z ps=>simp only[PO.run];rw[afill_congr h]
 | minmax m xs=>simp only[PO.run];rw[show List.map e1 xs=List.map e2 xs from List.map_congr_left h]
 | konst v=>rfl
 | stuck=>rfl
 | subS x a b=>
   simp only[PO.aos,List.mem_cons,List.mem_append]at h
   simp only[PO.run,h x (.inl rfl),opt_congr (fun y hy=>h y (.inr (.inl hy))),opt_congr (fun y hy=>h y (.inr (.inr hy)))]
 | subL es x a b c=>
   simp only[PO.aos,List.mem_cons,List.mem_append]at h
   simp only[PO.run,h x (.inl rfl),opt_congr (fun y hy=>h y (.inr (.inl hy))),opt_congr (fun y hy=>h y (.inr (.inr (.inl hy)))),opt_congr (fun y hy=>h y (.inr (.inr (.inr hy))))]
 | subA n es x a b c=>
   simp only[PO.aos,List.mem_cons,List.mem_append]at h
   simp only[PO.run,h x (.inl rfl),opt_congr (fun y hy=>h y (.inr (.inl hy))),opt_congr (fun y hy=>h y (.inr (.inr (.inl hy)))),opt_congr (fun y hy=>h y (.inr (.inr (.inr hy))))]
 | pick a b c=>
   simp only[PO.aos,List.mem_cons,List.not_mem_nil,or_false]at h
   simp only[PO.run,h a (.inl rfl),h b (.inr (.inl rfl)),h c (.inr (.inr rfl))]
 | bin op x y=>simp only[PO.aos,List.mem_cons,List.not_mem_nil,or_false]at h;simp only[PO.run,h x (.inl rfl),h y (.inr rfl)]
 | iaddrA n es x y=>simp only[PO.aos,List.mem_cons,List.not_mem_nil,or_false]at h;simp only[PO.run,h x (.inl rfl),h y (.inr rfl)]
 | iaddrS es x y=>simp only[PO.aos,List.mem_cons,List.not_mem_nil,or_false]at h;simp only[PO.run,h x (.inl rfl),h y (.inr rfl)]
 | idxA n es s x y=>simp only[PO.aos,List.mem_cons,List.not_mem_nil,or_false]at h;simp only[PO.run,h x (.inl rfl),h y (.inr rfl)]
 | idxS x y=>simp only[PO.aos,List.mem_cons,List.not_mem_nil,or_false]at h;simp only[PO.run,h x (.inl rfl),h y (.inr rfl)]
 | eqA g ks x y=>simp only[PO.aos,List.mem_cons,List.not_mem_nil,or_false]at h;simp only[PO.run,h x (.inl rfl),h y (.inr rfl)]
 | eqB g x y=>simp only[PO.aos,List.mem_cons,List.not_mem_nil,or_false]at h;simp only[PO.run,h x (.inl rfl),h y (.inr rfl)]
 | eqN g k x y=>simp only[PO.aos,List.mem_cons,List.not_mem_nil,or_false]at h;simp only[PO.run,h x (.inl rfl),h y (.inr rfl)]
 | mov x=>simp only[PO.run,h x (by simp[PO.aos])]
 | un op x=>simp only[PO.run,h x (by simp[PO.aos])]
 | conv k x=>simp only[PO.run,h x (by simp[PO.aos])]
 | faddr o x=>simp only[PO.run,h x (by simp[PO.aos])]
 | field o s x=>simp only[PO.run,h x (by simp[PO.aos])]
 | extr i x=>simp only[PO.run,h x (by simp[PO.aos])]
 | lenOf s x=>simp only[PO.run,h x (by simp[PO.aos])]
 | capOf x=>simp only[PO.run,h x (by simp[PO.aos])]
 | nilck x=>simp only[PO.run,h x (by simp[PO.aos])]
 | iface t x=>simp only[PO.run,h x (by simp[PO.aos])]
 | same x=>simp only[PO.run,h x (by simp[PO.aos])]
 | sldata x=>simp only[PO.run,h x (by simp[PO.aos])]
 | r2s x=>simp only[PO.run,h x (by simp[PO.aos])]
theorem RO.congr {e1 e2:AO→AV} {hp:Heap} {o:RO} (h:∀a∈o.aos,e1 a=e2 a):RO.run e1 hp o=RO.run e2 hp o:=by
 cases o with
 | load s x=>cases s <;> simp only[RO.run,h x (by simp[RO.aos])]
 | b2s x=>simp only[RO.run,h x (by simp[RO.aos])]
 | mlen x=>simp only[RO.run,h x (by simp[RO.aos])]
 | toU x=>simp only[RO.run,h x (by simp[RO.aos])]
 | ofU t z x=>simp only[RO.run,h x (by simp[RO.aos])]
 | gaddr g l s x=>simp only[RO.run,h x (by simp[RO.aos])]
 | lookup kk z ok m k=>simp only[RO.run,h m (by simp[RO.aos]),h k (by simp[RO.aos])]
theorem NO.congr {e1 e2:AO→AV} {n:Nat} {o:NO} (h:∀a∈o.aos,e1 a=e2 a):NO.run e1 n o=NO.run e2 n o:=by
 cases o with
 | alloc t l z=>rfl
 | mkMap=>rfl
 | box t l x=>simp only[NO.run,h x (by simp[NO.aos])]
 | s2b t x=>simp only[NO.run,h x (by simp[NO.aos])]
 | rangeS x=>simp only[NO.run,h x (by simp[NO.aos])]
 | buildSl t n z ps=>simp only[NO.run];rw[afill_congr h]
 | mkSl t e b z l c=>simp only[NO.run,h l (by simp[NO.aos]),h c (by simp[NO.aos])]
theorem WO.congr {call:CallF} {e1 e2:AO→AV} {st:St} {o:WO} (h:∀a∈o.aos,e1 a=e2 a):WO.run call e1 st o=WO.run call e2 st o:=by
 cases o with
 | store s a x=>simp only[WO.run,h a (by simp[WO.aos]),h x (by simp[WO.aos])]
 | append t e b z a x=>simp only[WO.run,h a (by simp[WO.aos]),h x (by simp[WO.aos])]
 | copy e a x=>simp only[WO.run,h a (by simp[WO.aos]),h x (by simp[WO.aos])]
 | mput k a b c=>simp only[WO.run,h a (by simp[WO.aos]),h b (by simp[WO.aos]),h c (by simp[WO.aos])]
 | nextS x=>simp only[WO.run,h x (by simp[WO.aos])]
 | ustr t p l=>simp only[WO.run,h p (by simp[WO.aos]),h l (by simp[WO.aos])]
 | call f xs=>
   simp only[WO.run,h f (by simp[WO.aos])]
   rw[List.map_congr_left (fun x hx=>h x (by simp[WO.aos,hx]))]
theorem RO.grow {ev:AO→AV} {h h':Heap} (hs:∀n o,hget h n=some o→hget h' n=some o) {o:RO} {v:AV} (hv:RO.run ev h o=some v):RO.run ev h' o=some v:=by
 have c1:∀n off v,rdCell h n off=some v→rdCell h' n off=some v:=by
  intro n off v hv
  unfold rdCell at hv⊢
  split at hv <;> first | (cases hv;done) | (rename_i hg;rw[hs _ _ hg];exact hv)
 have c2:∀n off k v,rdCells h n off k=some v→rdCells h' n off k=some v:=by
  intro n off k v hv
  unfold rdCells at hv⊢
  split at hv <;> first | (cases hv;done) | (rename_i hg;rw[hs _ _ hg];exact hv)
 cases o with
 | load s x=>
   cases s with
   | none=>
     simp only[RO.run]at hv⊢
     split at hv
     ·exact c1 _ _ _ hv
     ·cases hv
   | some k=>
     simp only[RO.run]at hv⊢
     split at hv
     ·simp only[Option.map_eq_some_iff]at hv⊢
      obtain⟨a,h1,h2⟩:=hv
      exact⟨a,c2 _ _ _ _ h1,h2⟩
     ·cases hv
 | b2s x=>
   simp only[RO.run]at hv⊢
   split at hv
   ·exact hv
   ·split at hv
    ·rename_i cs hc
     rw[c2 _ _ _ _ hc]
     exact hv
    ·cases hv
   ·cases hv
 | lookup kk z ok m k=>
   simp only[RO.run]at hv⊢
   split at hv
   ·exact hv
   ·split at hv
    ·rename_i es hg
     rw[hs _ _ hg]
     exact hv
    ·cases hv
   ·cases hv
 | mlen m=>
   simp only[RO.run]at hv⊢
   split at hv
   ·exact hv
   ·split at hv
    ·rename_i es hg
     rw[hs _ _ hg]
     exact hv
    ·cases hv
   ·cases hv
 | toU x=>
   simp only[RO.run]at hv⊢
   split at hv
   ·split at hv
    ·rename_i hg
     rw[hs _ _ hg]
     exact hv
    ·cases hv
   ·cases hv
 | ofU t z x=>
   simp only[RO.run]at hv⊢
   split at hv
   ·split at hv
    ·rename_i hg
     rw[hs _ _ hg]
     exact hv
    ·cases hv
   ·cases hv
 | gaddr g l s x=>
   simp only[RO.run]at hv⊢
   split at hv
   ·split at hv
    ·rename_i hg
     rw[hs _ _ hg]
     exact hv
    ·cases hv
   ·cases hv
mutual
theorem avEq_eq:∀{a b:AV},avEq a b=true→a=b
 | .bot,b,h=>by cases b <;> simp_all [avEq]
 | .bool a,b,h=>by cases b <;> simp_all [avEq]
 | .int j a,b,h=>by cases b <;> simp_all [avEq]
 | .str s,b,h=>by
   cases b <;> simp only[avEq]at h <;> first | (cases h;done) | (rw[seq8_iff.1 h])
 | .ptr a b,c,h=>by cases c <;> simp_all [avEq]
 | .nilptr,b,h=>by cases b <;> simp_all [avEq]
 | .slice a b c d,e,h=>by cases e <;> simp_all [avEq]
 | .nilslice,b,h=>by cases b <;> simp_all [avEq]
 | .map a,b,h=>by cases b <;> simp_all [avEq]
 | .nilmap,b,h=>by cases b <;> simp_all [avEq]
 | .fn f x y,b,h=>by
   cases b <;> simp only[avEq,bool_and,beq_iff_eq]at h <;> first | (cases h;done) | skip
   rw[h.1,avEqs_eq h.2.1,avEqs_eq h.2.2]
 | .yield a,b,h=>by cases b <;> simp_all [avEq]
 | .nilfn,b,h=>by cases b <;> simp_all [avEq]
 | .iface t x,b,h=>by
   cases b <;> simp only[avEq,bool_and,beq_iff_eq]at h <;> first | (cases h;done) | skip
   rw[h.1,avEq_eq h.2]
 | .niliface,b,h=>by cases b <;> simp_all [avEq]
 | .agg x,b,h=>by
   cases b <;> simp only[avEq]at h <;> first | (cases h;done) | skip
   rw[avEqs_eq h]
 | .tuple x,b,h=>by
   cases b <;> simp only[avEq]at h <;> first | (cases h;done) | skip
   rw[avEqs_eq h]
theorem avEqs_eq:∀{a b:List AV},avEqs a b=true→a=b
 | [],b,h=>by cases b <;> simp_all [avEqs]
 | x::a,b,h=>by
   cases b with
   | nil=>simp[avEqs]at h
   | cons y b=>
     simp only[avEqs,bool_and]at h
     rw[avEq_eq h.1,avEqs_eq h.2]
end
end Go.Ev

/- Regions whose order is drawn: what is asked of the order that the evaluator takes. -/
namespace Go.Ev
open Go
structure G where
 i:Nat
 o:MI
 res:List Nat
def grpR:List G→List RI→Option (List G)
 | acc,[]=>some acc
 | acc,.op i o::r=>grpR (⟨i,o,[]⟩::acc) r
 | g::acc,.re j::r=>grpR (⟨g.i,g.o,j::g.res⟩::acc) r
 | [],.re _::_=>none
def MI.isN (o:MI):Bool:=match o.op with | .n _=>true | _=>false
def MI.isR (o:MI):Bool:=match o.op with | .r _=>true | _=>false
def MI.isW (o:MI):Bool:=match o.op with | .w _=>true | _=>false
def aoT:List AO→List Nat
 | []=>[]
 | .t n::r=>n::aoT r
 | .k _::r=>aoT r
def MI.reads (o:MI):List Nat:=
 match o.guard with
 | none=>aoT o.op.aos
 | some (t,_)=>t::aoT o.op.aos
def dstIn (d:Option Nat) (l:List Nat):Bool:=match d with | none=>false | some d=>hmem d l
def dstEq (a b:Option Nat):Bool:=match a,b with | some a,some b=>decide (a=b) | _,_=>false
def apartE (p g:MI):Bool:= !dstIn p.dst g.reads && (!dstIn g.dst p.reads && !dstEq p.dst g.dst)
inductive MT where
 | nil
 | node (l:MT) (k v:Nat) (r:MT)
def MT.get:MT→Nat→Nat
 | .nil,_=>0
 | .node l k v r,n=>if n=k then v else if n<k then l.get n else r.get n
def MT.of:Nat→Nat→List Nat→MT
 | 0,_,_=> .nil
 | d+1,lo,l=>
   match l.drop (l.length / 2)with
   | []=> .nil
   | v::r=> .node (MT.of d lo (l.take (l.length / 2))) (lo+l.length / 2) v (MT.of d (lo+l.length / 2+1) r)
def nthN:List Nat→Nat→Nat
 | [],_=>0
 | x::_,0=>x
 | _::r,n+1=>nthN r n
def maskL (f:Nat→Nat):List Edge→Nat
 | []=>0
 | e::r=>if Region.binds .any e=true then(2 ^ e.on ||| f e.on) ||| maskL f r else maskL f r
def maskOf (f:Nat→Nat) (o:Oper):Nat:=maskL f o.after.toList
def rowsOf (A:List Nat):List Oper→List Nat
 | []=>A
 | o::r=>match maskOf (nthN A) o with | 0=>rowsOf (A++[0]) r | m+1=>rowsOf (A++[Nat.succ m]) r
def mkA (ops:List Oper):MT:=MT.of 20 0 (rowsOf [] ops)
def ltA (A:MT) (a j:Nat):Bool:=(A.get j).testBit a
def ancOK (A:MT) (ops:Array Oper):Bool:=
 (List.range ops.size).all fun i=>match ops[i]? with
   | some o=>decide (A.get i=maskOf A.get o)
   | none=>false
theorem maskL_spec {f:Nat→Nat} {a:Nat}:∀{l:List Edge},(maskL f l).testBit a=true→∃e∈l,Region.binds .any e=true∧(e.on=a∨(f e.on).testBit a=true)
 | [],h=>by simp[maskL]at h
 | e::r,h=>by
   simp only[maskL]at h
   split at h
   ·rename_i hb
    rw[Nat.testBit_or,Nat.testBit_or,Bool.or_eq_true,Bool.or_eq_true,Nat.testBit_two_pow,decide_eq_true_eq]at h
    rcases h with h | h
    ·exact⟨e,List.mem_cons_self,hb,h⟩
    ·obtain⟨e',h1,h2⟩:=maskL_spec h
     exact⟨e',List.mem_cons_of_mem _ h1,h2⟩
   ·obtain⟨e',h1,h2⟩:=maskL_spec h
    exact⟨e',List.mem_cons_of_mem _ h1,h2⟩
def onOK (ops:Array Oper):Bool:=
 (List.range ops.size).all fun i=>match ops[i]? with | some o=>o.after.toList.all fun e=> !Region.binds .any e || decide (e.on<i) | none=>false
def ownR (g:G):List G→Bool
 | []=>false
 | q::_=>match g.o.op,q.o.op,q.o.dst with
   | .r (.b2s (.t d)),.n (.buildSl _ _ _ _),some c=>decide (d=c) && (g.o.guard.isNone && q.o.guard.isNone)
   | _,_,_=>false
def pairOK (A:MT) (ow:Bool) (p g:G):Bool:=
 decide (p.i≠g.i) && (!ltA A g.i p.i && (ltA A p.i g.i ||
  (apartE p.o g.o && (!(p.o.isN && (g.o.isR || g.o.isW)) && (!(p.o.isW && (g.o.isR && !ow || g.o.isW)) && (!(p.o.isR && g.o.isW) || hmem p.i g.res))))))
def reOK (j:Nat) (d:Option Nat) (rs:List Nat):List G→Bool
 | []=>false
 | k::ks=>if k.i=j then !dstIn d rs else !dstIn k.o.dst rs && (!dstEq k.o.dst d && reOK j d rs ks)
def gfind:List G→Nat→Option MI
 | [],_=>none
 | g::r,i=>if g.i=i then some g.o else gfind r i
def pwOK (A:MT):List G→Bool
 | []=>true
 | g::ps=>ps.all (fun p=>pairOK A (ownR g ps) p g) && (g.res.all (fun j=>match gfind (g::ps) j with | some o=>reOK j o.dst o.reads (g::ps) | none=>false) && pwOK A ps)
def chkD:ChkD:=fun X S L ops=>
 match grpR [] L with
 | none=>false
 | some gs=>
   decide (gs.length=ops.size) && ((List.range ops.size).all (fun i=>gs.any fun g=>decide (g.i=i)) &&
    (gs.all (fun g=>match ops[g.i]? with | some o=>chkI X S ops g.o o | none=>false) && (onOK ops && (ancOK (mkA ops.toList) ops && pwOK (mkA ops.toList) gs))))
end Go.Ev

/- Regions whose order is drawn: what the evaluator's run leaves behind, step by step. -/
namespace Go.Ev
open Go
variable {X : Cx} {N N' N'' : Nu} {D : ChkD}
inductive Eff where
 | non
 | new (n:Nat) (b:AObj)
 | post (st:St)
def Eff.ap:Eff→St→St
 | .non,s=>s
 | .new n b,s=>⟨(n,b)::s.h,s.nx⟩
 | .post s,_=>s
structure En where
 g:G
 e:Env
 st:St
 v:AV
 f:Eff
inductive Good (call:CallF) (nm:Nat) (o:MI) (e:Env) (st:St):AV→Eff→Nat→Prop where
 | skip:wanted e o.guard=some false→Good call nm o e st unmade .non nm
 | p {p:PO} {v:AV}:wanted e o.guard=some true→o.op= .p p→PO.run (AO.ev e) p=some v→Good call nm o e st v .non nm
 | r {p:RO} {v:AV}:wanted e o.guard=some true→o.op= .r p→RO.run (AO.ev e) st.h p=some v→Good call nm o e st v .non nm
 | n {p:NO} {v:AV} {b:AObj}:wanted e o.guard=some true→o.op= .n p→NO.run (AO.ev e) nm p=some (v,b)→Good call nm o e st v (.new nm b) (nm+1)
 | w {p:WO} {v:AV} {st':St}:wanted e o.guard=some true→o.op= .w p→WO.run call (AO.ev e) st p=some (v,st')→Good call nm o e st v (.post st') nm
theorem good_of_runI {call:CallF} {nm nm':Nat} {o:MI} {e e':Env} {st st':St} (h:runI call nm o e st=some (e',st',nm')):
  ∃v f,Good call nm o e st v f nm'∧e'=eput e o.dst v∧st'=f.ap st∧nm'≤nm+1:=by
 unfold runI at h
 split at h
 ·rename_i hw
  split at h
  ·rename_i p hp
   split at h
   ·rename_i v b hn
    cases h
    exact⟨v,_,.n hw hp hn,rfl,rfl,Nat.le_refl _⟩
   ·cases h
  ·rename_i m hm
   split at h
   ·rename_i v st1 hr
    cases h
    cases hop:o.op with
    | n p=>exact absurd hop (hm p)
    | p p=>
      rw[hop]at hr
      simp only[MO.run]at hr
      split at hr
      ·rename_i u hu
       cases hr
       exact⟨_,_,.p hw hop hu,rfl,rfl,Nat.le_succ _⟩
      ·cases hr
    | r p=>
      rw[hop]at hr
      simp only[MO.run]at hr
      split at hr
      ·rename_i u hu
       cases hr
       exact⟨_,_,.r hw hop hu,rfl,rfl,Nat.le_succ _⟩
      ·cases hr
    | w p=>
      rw[hop]at hr
      exact⟨_,_,.w hw hop hr,rfl,rfl,Nat.le_succ _⟩
   ·cases h
 ·rename_i hw
  cases h
  exact⟨_,_,.skip hw,rfl,rfl,Nat.le_succ _⟩
 ·cases h
def ReF (o:MI) (e:Env) (st:St):Prop:=wanted e o.guard=some true→∃p d,o.op= .r p∧o.dst=some d∧RO.run (AO.ev e) st.h p=some (eget e d)
theorem reF_of {done:List (Nat×MI)} {i:Nat} {e:Env} {st:St} (h:reI done i e st=true):∃o,dfind done i=some o∧ReF o e st:=by
 unfold reI at h
 split at h
 ·cases h
 ·rename_i o ho
  refine⟨o,ho,fun hw=> ?_⟩
  rw[hw]at h
  simp only at h
  split at h
  ·rename_i p d hp hd
   split at h
   ·rename_i v hv
    rw[avEq_eq h]at hv
    exact⟨p,d,hp,hd,hv⟩
   ·cases h
  ·cases h
inductive Tr (call:CallF) (nm0:Nat) (e0:Env) (st0:St):List En→Nat→Env→St→Prop where
 | nil:Tr call nm0 e0 st0 [] nm0 e0 st0
 | op {T:List En} {nm nm':Nat} {e:Env} {st:St} {g:G} {v:AV} {f:Eff}:Tr call nm0 e0 st0 T nm e st→Good call nm g.o e st v f nm'→
    (∀j∈g.res,∃o,gfind (g::T.map En.g) j=some o∧ReF o (eput e g.o.dst v) (f.ap st))→Tr call nm0 e0 st0 (⟨g,e,st,v,f⟩::T) nm' (eput e g.o.dst v) (f.ap st)
theorem tr_of_runR {call:CallF} {nm0:Nat} {e0:Env} {st0:St}:∀(L:List RI) (done:List (Nat×MI)) (nm:Nat) (e e':Env) (st st':St) (T:List En) (gs:List G),
  runR call done nm L e st=some (e',st')→Tr call nm0 e0 st0 T nm e st→(∀j,dfind done j=gfind (T.map En.g) j)→grpR (T.map En.g) L=some gs→
  ∃T' nm',Tr call nm0 e0 st0 T' nm' e' st'∧T'.map En.g=gs∧nm'≤nm+L.length
 | [],done,nm,e,e',st,st',T,gs,hv,ht,hd,hg=>by
   cases hv
   cases hg
   exact⟨T,nm,ht,rfl,Nat.le_refl _⟩
 | .op i o::L,done,nm,e,e',st,st',T,gs,hv,ht,hd,hg=>by
   simp only[runR]at hv
   split at hv
   ·rename_i e1 st1 nm1 h1
    obtain⟨v,f,hgood,rfl,rfl,hle⟩:=good_of_runI h1
    simp only[grpR]at hg
    obtain⟨T',nm',a,b,c⟩:=tr_of_runR L _ _ _ _ _ _ (⟨⟨i,o,[]⟩,e,st,v,f⟩::T) gs hv (.op (g:=⟨i,o,[]⟩) ht hgood (fun j hj=>by cases hj))
     (fun j=>by simp only[dfind,List.map_cons,gfind,hd]) hg
    exact⟨T',nm',a,b,by simp only[List.length_cons];omega⟩
   ·cases hv
 | .re j::L,done,nm,e,e',st,st',T,gs,hv,ht,hd,hg=>by
   simp only[runR]at hv
   split at hv
   ·rename_i h1
    obtain⟨o,ho,hre⟩:=reF_of h1
    cases ht with
    | nil=>simp[grpR]at hg
    | @op T nm2 _ e2 st2 g v f ht hgood hres=>
      simp only[List.map_cons,grpR]at hg
      obtain⟨T',nm',a,b,c⟩:=tr_of_runR L done _ _ _ _ _ (⟨⟨g.i,g.o,j::g.res⟩,e2,st2,v,f⟩::T) gs hv
       (.op (g:=⟨g.i,g.o,j::g.res⟩) ht hgood (fun q hq=>by
         rcases List.mem_cons.1 hq with rfl | hq
         ·refine⟨o,?_,hre⟩
          rw[hd]at ho
          exact ho
         ·exact hres q hq))
       (fun q=>by rw[hd];rfl) hg
      exact⟨T',nm',a,b,by simp only[List.length_cons];omega⟩
   ·cases hv
def ES (S:Nat→Bool) (e0:Env):List En→Env
 | []=>e0
 | k::T=>if S k.g.i=true then eput (ES S e0 T) k.g.o.dst k.v else ES S e0 T
def HS (S:Nat→Bool) (st0:St):List En→St
 | []=>st0
 | k::T=>if S k.g.i=true then k.f.ap (HS S st0 T)else HS S st0 T
def news (S:Nat→Bool):List En→Heap
 | []=>[]
 | k::T=>if S k.g.i=true then(match k.f with | .new n b=>(n,b)::news S T | _=>news S T)else news S T
variable {call : CallF} {nm0 : Nat} {e0 : Env} {st0 : St}
theorem tr_full {T:List En} {nm:Nat} {e:Env} {st:St} (h:Tr call nm0 e0 st0 T nm e st):ES (fun _=>true) e0 T=e∧HS (fun _=>true) st0 T=st:=by
 induction h with
 | nil=>exact⟨rfl,rfl⟩
 | op _ _ _ ih=>exact⟨by simp only[ES,if_true,ih.1],by simp only[HS,if_true,ih.2]⟩
theorem Good.nm_le {nm nm':Nat} {o:MI} {e:Env} {st:St} {v:AV} {f:Eff} (h:Good call nm o e st v f nm'):nm≤nm'∧∀n b,f= .new n b→n=nm∧nm'=nm+1:=by
 cases h with
 | n=>exact⟨Nat.le_succ _,fun n b h=>by cases h;exact⟨rfl,rfl⟩⟩
 | _=>exact⟨Nat.le_refl _,fun n b h=>by cases h⟩
theorem tr_names {T:List En} {nm:Nat} {e:Env} {st:St} (h:Tr call nm0 e0 st0 T nm e st):nm0≤nm∧∀k∈T,∀n b,k.f= .new n b→nm0≤n∧n<nm:=by
 induction h with
 | nil=>exact⟨Nat.le_refl _,fun k hk=>by cases hk⟩
 | op _ hg _ ih=>
   obtain⟨h1,h2⟩:=hg.nm_le
   refine⟨by omega,fun k hk n b hf=> ?_⟩
   rcases List.mem_cons.1 hk with rfl | hk
   ·obtain⟨rfl,h3⟩:=h2 n b hf
    omega
   ·have:=ih.2 k hk n b hf
    omega
theorem tr_split:∀{T2:List En} {k:En} {T1:List En} {nm:Nat} {e:Env} {st:St},Tr call nm0 e0 st0 (T2++k::T1) nm e st→
  ∃nm1 nm2,Tr call nm0 e0 st0 T1 nm1 k.e k.st∧Good call nm1 k.g.o k.e k.st k.v k.f nm2∧nm2≤nm∧(∀q∈T2,∀n b,q.f= .new n b→nm2≤n∧n<nm)∧
   (∀j∈k.g.res,∃o,gfind (k.g::T1.map En.g) j=some o∧ReF o (eput k.e k.g.o.dst k.v) (k.f.ap k.st))
 | [],k,T1,nm,e,st,h=>by
   cases h with
   | op ht hg hr=>exact⟨_,_,ht,hg,Nat.le_refl _,(fun q hq=>by cases hq),hr⟩
 | q::T2,k,T1,nm,e,st,h=>by
   cases h with
   | op ht hg hr=>
     obtain⟨nm1,nm2,a,b,c,d,f⟩:=tr_split ht
     obtain⟨h1,h2⟩:=hg.nm_le
     refine⟨nm1,nm2,a,b,by omega,fun q' hq n bb hf=> ?_,f⟩
     rcases List.mem_cons.1 hq with rfl | hq
     ·obtain⟨rfl,h3⟩:=h2 n bb hf
      omega
     ·have:=d q' hq n bb hf
      omega
theorem eget_eput (e:Env) (d:Option Nat) (v:AV) (t:Nat):eget (eput e d v) t=if d=some t then v else eget e t:=by
 cases d with
 | none=>simp[eput]
 | some m=>
   simp only[eput,eset,eget,Option.some.injEq]
theorem ES_agree {S S':Nat→Bool} {t:Nat}:∀{T:List En},(∀k∈T,S k.g.i=S' k.g.i∨k.g.o.dst≠some t)→eget (ES S e0 T) t=eget (ES S' e0 T) t
 | [],_=>rfl
 | k::T,h=>by
   have ih:=ES_agree (T:=T) (fun q hq=>h q (List.mem_cons_of_mem _ hq))
   simp only[ES]
   rcases h k List.mem_cons_self with hk | hk
   ·rw[hk]
    split
    ·rw[eget_eput,eget_eput,ih]
    ·exact ih
   ·split <;> split <;> simp only[eget_eput,if_neg hk,ih]
theorem HS_agree {S S':Nat→Bool}:∀{T:List En},(∀k∈T,S k.g.i=S' k.g.i∨k.f= .non)→HS S st0 T=HS S' st0 T
 | [],_=>rfl
 | k::T,h=>by
   have ih:=HS_agree (T:=T) (fun q hq=>h q (List.mem_cons_of_mem _ hq))
   simp only[HS]
   rcases h k List.mem_cons_self with hk | hk
   ·rw[hk,ih]
   ·rw[hk,ih]
    split <;> split <;> rfl
theorem ES_skip {S:Nat→Bool} {t:Nat} {R:List En}:∀{T2:List En},(∀k∈T2,S k.g.i=true→k.g.o.dst≠some t)→eget (ES S e0 (T2++R)) t=eget (ES S e0 R) t
 | [],_=>rfl
 | k::T,h=>by
   have ih:=ES_skip (R:=R) (T2:=T) (fun q hq=>h q (List.mem_cons_of_mem _ hq))
   simp only[List.cons_append,ES]
   split
   ·rename_i hs
    rw[eget_eput,if_neg (h k List.mem_cons_self hs),ih]
   ·exact ih
theorem HS_push {S:Nat→Bool} {R:List En}:∀{T2:List En},(∀k∈T2,S k.g.i=true→∀s,k.f≠.post s)→HS S st0 (T2++R)=⟨news S T2++(HS S st0 R).h,(HS S st0 R).nx⟩
 | [],_=>rfl
 | k::T,h=>by
   have ih:=HS_push (R:=R) (T2:=T) (fun q hq=>h q (List.mem_cons_of_mem _ hq))
   simp only[List.cons_append,HS,news]
   split
   ·rename_i hs
    have:=h k List.mem_cons_self hs
    cases hf:k.f with
    | non=>simp only[Eff.ap,ih]
    | new n b=>simp only[Eff.ap,ih,List.cons_append]
    | post s=>exact absurd hf (this s)
   ·exact ih
theorem news_agree {S S':Nat→Bool}:∀{T:List En},(∀k∈T,S k.g.i=S' k.g.i)→news S T=news S' T
 | [],_=>rfl
 | k::T,h=>by
   simp only[news]
   rw[h k List.mem_cons_self,news_agree (fun q hq=>h q (List.mem_cons_of_mem _ hq))]
theorem news_mem {S:Nat→Bool} {n:Nat} {b:AObj}:∀{T:List En},hget (news S T) n=some b→∃k∈T,S k.g.i=true∧k.f= .new n b
 | [],h=>by cases h
 | k::T,h=>by
   simp only[news]at h
   split at h
   ·rename_i hs
    split at h
    ·rename_i m c hf
     simp only[hget]at h
     split at h
     ·rename_i e;subst e;cases h
      exact⟨k,List.mem_cons_self,hs,hf⟩
     ·obtain⟨q,hq,h1,h2⟩:=news_mem h
      exact⟨q,List.mem_cons_of_mem _ hq,h1,h2⟩
    ·obtain⟨q,hq,h1,h2⟩:=news_mem h
     exact⟨q,List.mem_cons_of_mem _ hq,h1,h2⟩
   ·obtain⟨q,hq,h1,h2⟩:=news_mem h
    exact⟨q,List.mem_cons_of_mem _ hq,h1,h2⟩
theorem hget_append:∀{a b:Heap} {n:Nat},hget (a++b) n=(hget a n).or (hget b n)
 | [],b,n=>rfl
 | (m,o)::a,b,n=>by
   simp only[List.cons_append,hget]
   split
   ·rfl
   ·exact hget_append
theorem ObjR.named {w:World} {n:Nat} {o:AObj} (h:ObjR D X N w n o):∃a,N.ρ n=some a:=by
 cases o with
 | cells ty l cs=>obtain⟨b,us,fz,h1,_⟩:=h;exact⟨_,h1⟩
 | buf ty es cs=>obtain⟨b,us,fz,h1,_⟩:=h;exact⟨_,h1⟩
 | ro cs=>obtain⟨a,h1,_⟩:=h;exact⟨_,h1⟩
 | map es=>obtain⟨b,mes,clk,h1,_⟩:=h;exact⟨_,h1⟩
 | glob g cs=>obtain⟨us,t,fz,h1,_⟩:=h;exact⟨_,h1⟩
 | iter s pos=>obtain⟨b,h1,_⟩:=h;exact⟨_,h1⟩
 | loop st env ps assign body=>obtain⟨b,l,S,h1,_⟩:=h;exact⟨_,h1⟩
theorem NO_own {ev:AO→AV} {n:Nat} {p:NO} {v:AV} {b:AObj} (h:NO.run ev n p=some (v,b)):b.own=true:=by
 cases p <;> simp only[NO.run]at h
 ·cases h;rfl
 ·split at h <;> cases h;rfl
 ·split at h <;> cases h;rfl
 ·split at h
  ·split at h <;> cases h;rfl
  ·cases h
 ·cases h;rfl
 ·split at h <;> cases h;rfl
 ·split at h <;> cases h;rfl
theorem readd {Y h h':Heap} {w w':World} (hr:HR D X N (Y++h) w) (hr':HR D X N' h' w') (g:Gd N h w N' h' w') (hown:∀n o,hget Y n=some o→o.own=true)
  (hY:∀n o,hget Y n=some o→hget h n=none):
  HR D X N' (Y++h') w'∧Gd N (Y++h) w N' (Y++h') w'∧∀n o,hget Y n=some o→hget h' n=none:=by
 have inY:∀n o,hget Y n=some o→hget (Y++h) n=some o:=fun n o ho=>by rw[hget_append,ho];rfl
 have inh:∀n o,hget h n=some o→hget (Y++h) n=some o:=fun n o ho=>by
  rw[hget_append]
  cases hy:hget Y n with
  | none=>exact ho
  | some q=>rw[hY n q hy]at ho;cases ho
 have apart:∀n o a m p c,hget Y n=some o→N.ρ n=some a→hget h m=some p→N.ρ m=some c→a.block≠c.block:=by
  intro n o a m p c h1 h2 h3 h4 e
  have:=hr.sep n m o p a c (inY n o h1) (inh m p h3) (hown n o h1) h2 h4 e
  subst this
  rw[hY n o h1]at h3
  cases h3
 have key:∀n o a m p c,hget Y n=some o→N.ρ n=some a→hget h' m=some p→N'.ρ m=some c→a.block≠c.block:=by
  intro n o a m p c h1 h2 h3 h4 e
  rcases g.has m p c h3 h4 with ⟨q,r,d,k1,k2,k3,_⟩ | hge
  ·exact apart n o a q r d h1 h2 k1 k2 (e.trans k3.symm)
  ·have:=(hr.objs n o (inY n o h1)).lt h2
   omega
 have named:∀n o,hget Y n=some o→∃a,N.ρ n=some a∧N'.ρ n=some a:=fun n o ho=>by
  obtain⟨a,ha⟩:=(hr.objs n o (inY n o ho)).named
  exact⟨a,ha,(g.le n a ha).1⟩
 have third:∀n o,hget Y n=some o→hget h' n=none:=by
  intro n o ho
  obtain⟨a,ha,ha'⟩:=named n o ho
  cases hq:hget h' n with
  | none=>rfl
  | some p=>exact absurd rfl (key n o a n p a ho ha hq ha')
 have cases':∀n o,hget (Y++h') n=some o→hget Y n=some o∨hget h' n=some o:=by
  intro n o ho
  rw[hget_append]at ho
  cases hy:hget Y n with
  | none=>rw[hy]at ho;exact .inr ho
  | some q=>rw[hy]at ho;exact .inl ho
 refine⟨⟨fun n o ho=> ?_,fun n m o p a c ho hp hpo ha hc hac=> ?_⟩,⟨g.le,g.size,g.tape,g.os,g.output,fun b hb hn=>g.frame b hb (fun hw=>hn ?_),fun n o a ho ha=> ?_⟩,third⟩
 ·rcases cases' n o ho with ho | ho
  ·refine(hr.objs n o (inY n o ho)).keep g.le g.size (fun a ha=>g.frame _ ((hr.objs n o (inY n o ho)).lt ha) ?_)
   rintro⟨m,p,c,h1,h2,h3,h4⟩
   exact apart n o a m p c ho ha h1 h3 h4.symm
  ·exact hr'.objs n o ho
 ·rcases cases' n o ho with ho | ho
  ·obtain⟨a',ha1,ha2⟩:=named n o ho
   rw[ha]at ha2;cases ha2
   rcases cases' m p hp with hp | hp
   ·obtain⟨c',hc1,hc2⟩:=named m p hp
    rw[hc]at hc2;cases hc2
    exact hr.sep n m o p a c (inY n o ho) (inY m p hp) hpo ha1 hc1 hac
   ·exact absurd hac (key n o a m p c ho ha1 hp hc)
  ·rcases cases' m p hp with hp | hp
   ·obtain⟨c',hc1,hc2⟩:=named m p hp
    rw[hc]at hc2;cases hc2
    exact absurd hac.symm (key m p c n o a hp hc1 ho ha)
   ·exact hr'.sep n m o p a c ho hp hpo ha hc hac
 ·obtain⟨m,p,c,h1,h2,h3,h4⟩:=hw
  exact⟨m,p,c,inh m p h1,h2,h3,h4⟩
 ·rcases cases' n o ho with ho | ho
  ·obtain⟨a',ha1,ha2⟩:=named n o ho
   rw[ha]at ha2;cases ha2
   exact .inl ⟨n,o,a,inY n o ho,ha1,rfl,id⟩
  ·rcases g.has n o a ho ha with ⟨m,p,c,k1,k2,k3,k4⟩ | hge
   ·exact .inl ⟨m,p,c,inh m p k1,k2,k3,k4⟩
   ·exact .inr hge
end Go.Ev

/- Regions whose order is drawn: one operation, whichever is drawn. -/
namespace Go.Ev
open Go
variable {X : Cx} {N N' N'' : Nu} {D : ChkD}
theorem hmem_iff {n:Nat}:∀{l:List Nat},hmem n l=true↔n∈l
 | []=>by simp[hmem]
 | m::l=>by
   simp only[hmem,List.mem_cons]
   by_cases h:m=n
   ·simp[h]
   ·rw[if_neg h,hmem_iff]
    constructor
    ·exact .inr
    ·rintro(rfl | h')
     ·exact absurd rfl h
     ·exact h'
theorem dstIn_false {d:Option Nat} {l:List Nat} (h:(!dstIn d l)=true):∀t∈l,d≠some t:=by
 intro t ht e
 subst e
 simp only[dstIn,Bool.not_eq_true']at h
 rw[hmem_iff.2 ht]at h
 cases h
theorem dstEq_false {a b:Option Nat} (h:(!dstEq a b)=true):∀t,a=some t→b≠some t:=by
 intro t ha hb
 subst ha hb
 simp[dstEq]at h
structure Apart (p g:MI):Prop where
 a:∀t∈g.reads,p.dst≠some t
 b:∀t∈p.reads,g.dst≠some t
 c:∀t,p.dst=some t→g.dst≠some t
structure Pair (A:MT) (ow:Bool) (p g:G):Prop where
 ne:p.i≠g.i
 lin:ltA A g.i p.i≠true
 or:ltA A p.i g.i=true∨(Apart p.o g.o∧(p.o.isN=true→g.o.isR=false∧g.o.isW=false)∧(p.o.isW=true→(g.o.isR=false∨ow=true)∧g.o.isW=false)∧
  (p.o.isR=true→g.o.isW=true→p.i∈g.res))
theorem pairOK_spec {A:MT} {ow:Bool} {p g:G} (h:pairOK A ow p g=true):Pair A ow p g:=by
 simp only[pairOK,bool_and,decide_eq_true_eq,Bool.or_eq_true]at h
 obtain⟨h1,h2,h3⟩:=h
 refine⟨h1,by simpa using h2,?_⟩
 rcases h3 with h3 | ⟨h3,h4,h5,h6⟩
 ·exact .inl h3
 ·right
  simp only[apartE,bool_and]at h3
  refine⟨⟨dstIn_false h3.1,dstIn_false h3.2.1,dstEq_false h3.2.2⟩,fun hn=> ?_,fun hw=> ?_,fun hr hw=> ?_⟩
  ·simp only[hn,Bool.true_and,Bool.not_or,bool_and,Bool.not_eq_true']at h4
   exact h4
  ·simp only[hw,Bool.true_and,Bool.not_or,bool_and,Bool.not_eq_true']at h5
   refine⟨?_,h5.2⟩
   cases ho:ow with
   | true=>exact .inr rfl
   | false=>rw[ho]at h5;left;simpa using h5.1
  ·rcases h6 with h6 | h6
   ·simp[hr,hw]at h6
   ·exact hmem_iff.1 h6
theorem aoT_mem {n:Nat}:∀{l:List AO},AO.t n∈l→n∈aoT l
 | .t m::l,h=>by
   simp only[aoT,List.mem_cons,AO.t.injEq]at h⊢
   rcases h with h | h
   ·exact .inl h
   ·exact .inr (aoT_mem h)
 | .k v::l,h=>by
   simp only[aoT]
   rcases List.mem_cons.1 h with h | h
   ·cases h
   ·exact aoT_mem h
theorem reads_agree {o:MI} {e1 e2:Env} (h:∀t∈o.reads,eget e1 t=eget e2 t):(∀a∈o.op.aos,AO.ev e1 a=AO.ev e2 a)∧wanted e1 o.guard=wanted e2 o.guard:=by
 unfold MI.reads at h
 cases hg:o.guard with
 | none=>
   rw[hg]at h
   refine⟨fun a ha=> ?_,rfl⟩
   cases a with
   | t n=>exact h n (aoT_mem ha)
   | k v=>rfl
 | some p=>
   obtain⟨t,b⟩:=p
   rw[hg]at h
   refine⟨fun a ha=> ?_,?_⟩
   ·cases a with
    | t n=>exact h n (List.mem_cons_of_mem _ (aoT_mem ha))
    | k v=>rfl
   ·simp only[wanted,h t List.mem_cons_self]
theorem gfind_split {k:En} {T1:List En}:∀{T2:List En},(∀q∈T2,q.g.i≠k.g.i)→gfind ((T2++k::T1).map En.g) k.g.i=some k.g.o
 | [],_=>by simp[gfind]
 | q::T2,h=>by
   simp only[List.cons_append,List.map_cons,gfind]
   rw[if_neg (h q List.mem_cons_self)]
   exact gfind_split (fun q hq=>h q (List.mem_cons_of_mem _ hq))
theorem reOK_split {k:En} {T1:List En} {d:Option Nat} {rs:List Nat}:∀{T2:List En},(∀q∈T2,q.g.i≠k.g.i)→reOK k.g.i d rs ((T2++k::T1).map En.g)=true→
  (∀q∈T2,(∀t∈rs,q.g.o.dst≠some t)∧∀t,d=some t→q.g.o.dst≠some t)∧∀t∈rs,d≠some t
 | [],_,h=>by
   simp only[List.nil_append,List.map_cons,reOK,if_true]at h
   exact⟨(fun q hq=>nomatch hq),dstIn_false h⟩
 | q::T2,hq,h=>by
   simp only[List.cons_append,List.map_cons,reOK]at h
   rw[if_neg (hq q List.mem_cons_self)]at h
   simp only[bool_and]at h
   obtain⟨h1,h2⟩:=reOK_split (fun q hq'=>hq q (List.mem_cons_of_mem _ hq')) h.2.2
   refine⟨fun r hr=> ?_,h2⟩
   rcases List.mem_cons.1 hr with rfl | hr
   ·exact⟨dstIn_false h.1,fun t ht e=>dstEq_false h.2.1 t e ht⟩
   ·exact h1 r hr
theorem pw_split {A:MT} {k:En} {T1:List En}:∀{T2:List En},pwOK A ((T2++k::T1).map En.g)=true→
  (∀p∈T1,Pair A (ownR k.g (T1.map En.g)) p.g k.g)∧(∀q∈T2,∃ow,Pair A ow k.g q.g)∧∀j∈k.g.res,∃o,gfind ((k::T1).map En.g) j=some o∧reOK j o.dst o.reads ((k::T1).map En.g)=true
 | [],h=>by
   simp only[List.nil_append,List.map_cons,pwOK,bool_and,List.all_eq_true]at h
   refine⟨fun p hp=>pairOK_spec (h.1 p.g (List.mem_map_of_mem hp)),(fun q hq=>by cases hq),fun j hj=> ?_⟩
   have:=h.2.1 j hj
   split at this
   ·rename_i o ho
    exact⟨o,ho,this⟩
   ·cases this
 | q::T2,h=>by
   simp only[List.cons_append,List.map_cons,pwOK,bool_and,List.all_eq_true]at h
   obtain⟨h1,h2,h3⟩:=pw_split h.2.2
   refine⟨h1,fun r hr=> ?_,h3⟩
   rcases List.mem_cons.1 hr with rfl | hr
   ·exact⟨_,pairOK_spec (h.1 k.g (List.mem_map_of_mem (by simp)))⟩
   ·exact h2 r hr
def setS (S:Nat→Bool) (j:Nat):Nat→Bool:=fun i=>if i=j then true else S i
structure Inv (D:ChkD) (X:Cx) (nm0:Nat) (e0:Env) (st0:St) (A:MT) (T:List En) (N0:Nu) (w0:World) (S:Nat→Bool) (N:Nu) (t:Array Value) (w:World):Prop where
 env:EnvR X N (ES S e0 T) t
 sr:SR D X N (HS S st0 T) w
 gd:Gd N0 st0.h w0 N (HS S st0 T).h w
 nx:st0.nx≤(HS S st0 T).nx
 old:∀n,n<nm0→N.ρ n=N0.ρ n
 un:∀k∈T,S k.g.i=false→∀n b,k.f= .new n b→N.ρ n=none
 x4:∀T2 R,T=T2++R→(∀k∈T2,S k.g.i=true→∀s,k.f≠.post s)→∀k∈T2,S k.g.i=true→∀n b,k.f= .new n b→hget (HS S st0 R).h n=none
 cl:∀k,S k=true→∀a,ltA A a k=true→S a=true
variable {call : CallF} {nm0 nm : Nat} {e0 e : Env} {st0 st : St} {A : MT} {T : List En} {N0 : Nu} {w0 w : World} {S : Nat → Bool} {t : Array Value}
theorem Good.kind {nm nm':Nat} {o:MI} {e:Env} {st:St} {v:AV} {f:Eff} (h:Good call nm o e st v f nm'):
  (∀s,f= .post s→o.isW=true)∧(∀n b,f= .new n b→o.isN=true)∧(f≠.non→o.isN=true∨o.isW=true):=by
 cases h with
 | skip h=>exact⟨(fun s h=>nomatch h),(fun n b h=>nomatch h),fun h=>absurd rfl h⟩
 | p h1 h2 h3=>exact⟨(fun s h=>nomatch h),(fun n b h=>nomatch h),fun h=>absurd rfl h⟩
 | r h1 h2 h3=>exact⟨(fun s h=>nomatch h),(fun n b h=>nomatch h),fun h=>absurd rfl h⟩
 | n h1 h2 h3=>exact⟨(fun s h=>nomatch h),(fun n b h=>by simp[MI.isN,h2]),fun h=> .inl (by simp[MI.isN,h2])⟩
 | w h1 h2 h3=>exact⟨(fun s h=>by simp[MI.isW,h2]),(fun n b h=>nomatch h),fun h=> .inr (by simp[MI.isW,h2])⟩
theorem cut_two {T2 T1 Ta R:List En} {k:En} (h:T2++k::T1=Ta++R):(∃Tm,Ta=T2++k::Tm∧T1=Tm++R)∨∃Tm,R=Tm++k::T1∧T2=Ta++Tm:=by
 rcases List.append_eq_append_iff.1 h with ⟨as,h1,h2⟩ | ⟨bs,h1,h2⟩
 ·cases as with
  | nil=>exact .inr ⟨[],by simpa using h2.symm,by simpa using h1.symm⟩
  | cons a as=>
    simp only[List.cons_append,List.cons.injEq]at h2
    obtain⟨rfl,h2⟩:=h2
    exact .inl ⟨as,h1,h2⟩
 ·exact .inr ⟨bs,h2,h1⟩
end Go.Ev

/- Regions whose order is drawn: what holds of the operations made so far is kept by the next. -/
namespace Go.Ev
open Go
variable {X : Cx} {N N' N'' : Nu} {D : ChkD}
variable {call : CallF} {nm0 nm : Nat} {e0 e : Env} {st0 st : St} {A : MT} {T : List En} {N0 : Nu} {w0 w : World} {S : Nat → Bool} {t : Array Value}
theorem tr_head {k:En} (h:Tr call nm0 e0 st0 (k::T) nm e st):e=eput k.e k.g.o.dst k.v∧st=k.f.ap k.st:=by
 cases h with
 | op=>exact⟨rfl,rfl⟩
theorem tr_kind (h:Tr call nm0 e0 st0 T nm e st):∀k∈T,(∀s,k.f= .post s→k.g.o.isW=true)∧(∀n b,k.f= .new n b→k.g.o.isN=true)∧(k.f≠.non→k.g.o.isN=true∨k.g.o.isW=true):=by
 induction h with
 | nil=>intro k hk;cases hk
 | op _ hg _ ih=>
   intro k hk
   rcases List.mem_cons.1 hk with rfl | hk
   ·exact hg.kind
   ·exact ih k hk
theorem tr_own (h:Tr call nm0 e0 st0 T nm e st):∀k∈T,∀n b,k.f= .new n b→b.own=true:=by
 induction h with
 | nil=>intro k hk;cases hk
 | op _ hg _ ih=>
   intro k hk n b hf
   rcases List.mem_cons.1 hk with rfl | hk
   ·cases hg with
    | n h1 h2 h3=>cases hf;exact NO_own h3
    | _=>cases hf
   ·exact ih k hk n b hf
theorem news_get {n:Nat} {b:AObj} {k:En} (hs:S k.g.i=true) (hf:k.f= .new n b) {T:List En} (hk:k∈T):∃c,hget (news S T) n=some c:=by
 induction T with
 | nil=>cases hk
 | cons q T ih=>
   simp only[news]
   rcases List.mem_cons.1 hk with rfl | hk
   ·rw[if_pos hs,hf]
    exact⟨b,by simp[hget]⟩
   ·obtain⟨c,hc⟩:=ih hk
    by_cases hq:S q.g.i=true
    ·rw[if_pos hq]
     cases hqf:q.f with
     | non=>exact⟨c,hc⟩
     | new m b'=>
       simp only[hget]
       by_cases hm:m=n
       ·rw[if_pos hm];exact⟨_,rfl⟩
       ·rw[if_neg hm];exact⟨c,hc⟩
     | post s=>exact⟨c,hc⟩
    ·rw[if_neg hq]
     exact⟨c,hc⟩
theorem setS_ne {i j:Nat} (h:i≠j):setS S j i=S i:=by simp[setS,h]
theorem setS_eq {j:Nat}:setS S j j=true:=by simp[setS]
section
variable {k : En} {T2 T1 : List En}
theorem x4_step (hT:Tr call nm0 e0 st0 (T2++k::T1) nm e st) (inv:Inv D X nm0 e0 st0 A (T2++k::T1) N0 w0 S N t w) (hnS:S k.g.i=false)
  (ne1:∀p∈T1,p.g.i≠k.g.i) (ne2:∀q∈T2,q.g.i≠k.g.i)
  (hnew:∀n b,k.f= .new n b→∀q∈T2,S q.g.i=true→∀s,q.f≠.post s)
  (hpost:∀s,k.f= .post s→(∀q∈T2,S q.g.i=true→∀s',q.f≠.post s')∧∀n o,hget (news S T2) n=some o→hget s.h n=none):
  ∀Ta R,T2++k::T1=Ta++R→(∀q∈Ta,setS S k.g.i q.g.i=true→∀s,q.f≠.post s)→∀q∈Ta,setS S k.g.i q.g.i=true→∀n b,q.f= .new n b→
   hget (HS (setS S k.g.i) st0 R).h n=none:=by
 intro Ta R hsplit hnp q hq hS' n b hf
 have hmono:∀i,S i=true→setS S k.g.i i=true:=fun i hi=>by simp only[setS];split <;> first | rfl | exact hi
 have hnpS:∀q∈Ta,S q.g.i=true→∀s,q.f≠.post s:=fun q hq hs=>hnp q hq (hmono _ hs)
 rcases cut_two hsplit with ⟨Tm,hTa,hT1⟩ | ⟨Tm,hR,hT2⟩
 ·have hR:HS (setS S k.g.i) st0 R=HS S st0 R:=HS_agree (fun p hp=> .inl (setS_ne (ne1 p (by rw[hT1];exact List.mem_append_right _ hp))))
  rw[hR]
  by_cases he:q.g.i=k.g.i
  ·have hqk:q=k:=by
    rw[hTa]at hq
    rcases List.mem_append.1 hq with h | h
    ·exact absurd he (ne2 q h)
    ·rcases List.mem_cons.1 h with h | h
     ·exact h
     ·exact absurd he (ne1 q (by rw[hT1];exact List.mem_append_left _ h))
   subst hqk
   cases hg:hget (HS S st0 R).h n with
   | none=>rfl
   | some ob=>
     exfalso
     have hp:=HS_push (st0:=st0) (R:=R) hnpS
     rw[←hsplit]at hp
     have hs:=inv.sr.hr
     rw[hp]at hs
     have:∃ob',hget (news S Ta++(HS S st0 R).h) n=some ob':=by
      rw[hget_append]
      cases hget (news S Ta) n with
      | none=>exact⟨ob,hg⟩
      | some c=>exact⟨c,rfl⟩
     obtain⟨ob',ho'⟩:=this
     obtain⟨a,ha⟩:=(hs.objs n ob' ho').named
     rw[inv.un q (by simp) hnS n b hf]at ha
     cases ha
  ·exact inv.x4 Ta R hsplit hnpS q hq (by rw[setS_ne he]at hS';exact hS') n b hf
 ·have hq2:q∈T2:=by rw[hT2];exact List.mem_append_left _ hq
  have hSq:S q.g.i=true:=by rw[setS_ne (ne2 q hq2)]at hS';exact hS'
  have h0:=inv.x4 Ta R hsplit hnpS q hq hSq n b hf
  have hT1S:HS (setS S k.g.i) st0 T1=HS S st0 T1:=HS_agree (fun p hp=> .inl (setS_ne (ne1 p hp)))
  have hTm:news (setS S k.g.i) Tm=news S Tm:=news_agree (fun p hp=>setS_ne (ne2 p (by rw[hT2];exact List.mem_append_right _ hp)))
  have push:(∀q∈T2,S q.g.i=true→∀s,q.f≠.post s)→(∀q∈Tm,S q.g.i=true→∀s,q.f≠.post s)∧∀q∈Tm,setS S k.g.i q.g.i=true→∀s,q.f≠.post s:=by
   intro h
   have hm:∀q∈Tm,q∈T2:=fun q hq=>by rw[hT2];exact List.mem_append_right _ hq
   exact⟨fun q hq=>h q (hm q hq),fun q hq hs=>h q (hm q hq) (by rw[setS_ne (ne2 q (hm q hq))]at hs;exact hs)⟩
  rw[hR]at h0⊢
  cases hkf:k.f with
  | non=>
    have:HS (setS S k.g.i) st0 (Tm++k::T1)=HS S st0 (Tm++k::T1):=HS_agree (fun p hp=>by
     rcases List.mem_append.1 hp with h | h
     ·exact .inl (setS_ne (ne2 p (by rw[hT2];exact List.mem_append_right _ h)))
     ·rcases List.mem_cons.1 h with rfl | h
      ·exact .inr hkf
      ·exact .inl (setS_ne (ne1 p h)))
    rw[this]
    exact h0
  | new n1 b1=>
    obtain⟨p1,p2⟩:=push (hnew n1 b1 hkf)
    rw[HS_push p1]at h0
    rw[HS_push p2,hTm]
    simp only[HS,setS_eq,if_true,hnS,Bool.false_eq_true,if_false,hkf,Eff.ap,hT1S]at h0⊢
    obtain⟨nm1,nm2,_,hgood,_,hlater,_⟩:=tr_split hT
    have h1:=hgood.nm_le.2 n1 b1 hkf
    have h2:=hlater q hq2 n b hf
    rw[hget_append]at h0⊢
    simp only[hget]
    rw[if_neg (by omega)]
    exact h0
  | post s=>
    obtain⟨h1,h2⟩:=hpost s hkf
    obtain⟨p1,p2⟩:=push h1
    rw[HS_push p1]at h0
    rw[HS_push p2,hTm]
    simp only[HS,setS_eq,if_true,hkf,Eff.ap]
    rw[hget_append]at h0⊢
    obtain⟨c,hc⟩:=news_get hSq hf hq2
    rw[h2 n c hc]
    cases hm:hget (news S Tm) n with
    | none=>rfl
    | some z=>rw[hm]at h0;cases h0
theorem Inv.step {Sz:Nat} {ops:Array Oper} (hcall:CallOK D X call) (hT:Tr call nm0 e0 st0 (T2++k::T1) nm e st) (hnm:nm≤st0.nx) (hpw:pwOK A ((T2++k::T1).map En.g)=true)
  (inv:Inv D X nm0 e0 st0 A (T2++k::T1) N0 w0 S N t w) (hnS:S k.g.i=false) (hrd:∀a,ltA A a k.g.i=true→S a=true) {o:Oper} (ho:ops[k.g.i]? =some o) (hc:chkI X Sz ops k.g.o o=true) (hsz:Sz≤t.size)
  (b:Frame) (d:List Deferred) (rest:List Nat) (kk:List Item) (cs:List Frame):
  ∃N' t' w',Inv D X nm0 e0 st0 A (T2++k::T1) N0 w0 (setS S k.g.i) N' t' w'∧t'.size=t.size∧
   Steps X.P (lone (Fr b t d (.inRegion ops (k.g.i::rest)::kk)) cs w) (lone (Fr b t' d (.inRegion ops rest::kk)) cs w'):=by
 obtain⟨nm1,nm2,hT1,hgood,hnm2,hlater,hre⟩:=tr_split hT
 obtain⟨hp1,hp2,hpr⟩:=pw_split hpw
 obtain⟨full1,full2⟩:=tr_full hT1
 have kinds:=tr_kind hT
 have names:=tr_names hT
 have names1:=tr_names hT1
 have ne1:∀p∈T1,p.g.i≠k.g.i:=fun p hp=>(hp1 p hp).ne
 have ne2:∀q∈T2,q.g.i≠k.g.i:=fun q hq=>(hp2 q hq).choose_spec.ne.symm
 have earlier:∀p∈T1,S p.g.i=false→Apart p.g.o k.g.o∧(p.g.o.isN=true→k.g.o.isR=false∧k.g.o.isW=false)∧(p.g.o.isW=true→(k.g.o.isR=false∨ownR k.g (T1.map En.g)=true)∧k.g.o.isW=false):=by
  intro p hp hs
  rcases(hp1 p hp).or with h | ⟨h1,h2,h3,_⟩
  ·rw[hrd _ h]at hs;cases hs
  ·exact⟨h1,h2,h3⟩
 have later:∀q∈T2,S q.g.i=true→Apart k.g.o q.g.o∧(k.g.o.isN=true→q.g.o.isR=false∧q.g.o.isW=false)∧(k.g.o.isW=true→q.g.o.isW=false)∧
   (k.g.o.isR=true→q.g.o.isW=true→k.g.i∈q.g.res):=by
  intro q hq hs
  rcases(hp2 q hq).choose_spec.or with h | ⟨h1,h2,h3,h4⟩
  ·rw[inv.cl _ hs _ h]at hnS;cases hnS
  ·exact⟨h1,h2,fun hw=>(h3 hw).2,h4⟩
 have agree:∀x∈k.g.o.reads,eget (ES S e0 (T2++k::T1)) x=eget k.e x:=by
  intro x hx
  rw[ES_skip (fun q hq hs=>(later q hq hs).1.b x hx)]
  simp only[ES,hnS,Bool.false_eq_true,if_false]
  refine(ES_agree (S':=fun _=>true) (fun p hp=> ?_)).trans (by rw[full1])
  cases hs:S p.g.i with
  | true=>exact .inl rfl
  | false=>exact .inr ((earlier p hp hs).1.a x hx)
 obtain⟨ag1,ag2⟩:=reads_agree agree
 have egeteq:∀x,eget (ES (setS S k.g.i) e0 (T2++k::T1)) x=eget (eput (ES S e0 (T2++k::T1)) k.g.o.dst k.v) x:=by
  intro x
  rw[eget_eput]
  by_cases hx:k.g.o.dst=some x
  ·rw[if_pos hx,ES_skip (fun q hq hs=>(later q hq (by rw[setS_ne (ne2 q hq)]at hs;exact hs)).1.c x hx)]
   simp only[ES,setS_eq,if_true]
   rw[eget_eput,if_pos hx]
  ·rw[if_neg hx]
   refine ES_agree (fun q hq=> ?_)
   rcases List.mem_append.1 hq with h | h
   ·exact .inl (setS_ne (ne2 q h))
   ·rcases List.mem_cons.1 h with rfl | h
    ·exact .inr hx
    ·exact .inl (setS_ne (ne1 q h))
 have cl':∀i,setS S k.g.i i=true→∀a,ltA A a i=true→setS S k.g.i a=true:=by
  intro i hi a ha
  have:S a=true:=by
   by_cases e:i=k.g.i
   ·subst e;exact hrd a ha
   ·rw[setS_ne e]at hi;exact inv.cl i hi a ha
  simp only[setS];split <;> first | rfl | exact this
 have unS:∀q∈T2++k::T1,setS S k.g.i q.g.i=false→S q.g.i=false∧q.g.i≠k.g.i:=by
  intro q _ hs
  have:q.g.i≠k.g.i:=by
   intro e
   rw[e,setS_eq]at hs
   cases hs
  rw[setS_ne this]at hs
  exact⟨hs,this⟩
 have hc':=hc
 simp only[chkI,bool_and,beq_iff_eq]at hc'
 obtain⟨hdst,hlt,hg,hm⟩:=hc'
 have quiet:k.f= .non→k.g.o.run call (ES S e0 (T2++k::T1)) (HS S st0 (T2++k::T1))=some (eput (ES S e0 (T2++k::T1)) k.g.o.dst k.v,HS S st0 (T2++k::T1))→
   ∃N' t' w',Inv D X nm0 e0 st0 A (T2++k::T1) N0 w0 (setS S k.g.i) N' t' w'∧t'.size=t.size∧
    Steps X.P (lone (Fr b t d (.inRegion ops (k.g.i::rest)::kk)) cs w) (lone (Fr b t' d (.inRegion ops rest::kk)) cs w'):=by
  intro hf hrun
  obtain⟨N',t',w',a1,a2,a3,a4,a5,a6,a7⟩:=MI_sound hcall hrun hc ho inv.env hsz inv.sr b d rest kk cs
  have hHS:HS (setS S k.g.i) st0 (T2++k::T1)=HS S st0 (T2++k::T1):=HS_agree (fun q hq=>by
   rcases List.mem_append.1 hq with h | h
   ·exact .inl (setS_ne (ne2 q h))
   ·rcases List.mem_cons.1 h with rfl | h
    ·exact .inr hf
    ·exact .inl (setS_ne (ne1 q h)))
  have hnx:=inv.nx
  refine⟨N',t',w',⟨fun x=>by rw[egeteq];exact a1 x,by rw[hHS];exact a3,by rw[hHS];exact inv.gd.trans a4,by rw[hHS];exact inv.nx,fun n hn=> ?_,fun q hq hs n bb hf'=> ?_,?_,cl'⟩,a2,a7⟩
  ·rw[a6 n (by omega)];exact inv.old n hn
  ·have:=names.2 q hq n bb hf'
   rw[a6 n (by omega)]
   exact inv.un q hq (unS q hq hs).1 n bb hf'
  ·exact x4_step hT inv hnS ne1 ne2 (fun n bb h=>by rw[hf]at h;cases h) (fun s h=>by rw[hf]at h;cases h)
 generalize hv:k.v=v at*
 generalize hf:k.f=f at*
 cases hgood with
 | skip hw=>
   refine quiet rfl ?_
   simp only[MI.run,ag2,hw]
 | p hw hop hrun=>
   refine quiet rfl ?_
   rw[hop]at ag1
   simp only[MI.run,ag2,hw,hop,MO.run]
   rw[PO.congr ag1,hrun]
 | @r p v hw hop hrun=>
   refine quiet rfl ?_
   rw[hop]at ag1
   have hisR:k.g.o.isR=true:=by simp[MI.isR,hop]
   have hrun1:RO.run (AO.ev k.e) (HS S st0 T1).h p=some v:=by
    cases how:ownR k.g (T1.map En.g)with
    | false=>
      have hT1:HS S st0 T1=k.st:=by
       refine(HS_agree (S':=fun _=>true) (fun q hq=> ?_)).trans full2
       cases hs:S q.g.i with
       | true=>exact .inl rfl
       | false=>
         right
         obtain⟨_,h2,h3⟩:=earlier q hq hs
         by_cases hn:q.f= .non
         ·exact hn
         ·exfalso
          rcases(kinds q (by simp[hq])).2.2 hn with h | h
          ·rw[(h2 h).1]at hisR;cases hisR
          ·rcases(h3 h).1 with h4 | h4
           ·rw[h4]at hisR;cases hisR
           ·rw[how]at h4;cases h4
      rw[hT1];exact hrun
    | true=>
      cases T1 with
      | nil=>simp[ownR]at how
      | cons q0 T0=>
        have hS0:S q0.g.i=true:=by
         cases hs:S q0.g.i with
         | true=>rfl
         | false=>
           exfalso
           obtain⟨_,h2,_⟩:=earlier q0 List.mem_cons_self hs
           have hn0:q0.g.o.isN=true:=by
            simp only[List.map_cons,ownR]at how
            split at how
            ·rename_i h _;simp[MI.isN,h]
            ·cases how
           rw[(h2 hn0).1]at hisR;cases hisR
        simp only[List.map_cons,ownR]at how
        split at how
        case h_2=>cases how
        rename_i d ty len zero parts c hk0 hq0 hd0
        simp only[bool_and,decide_eq_true_eq,Option.isNone_iff_eq_none]at how
        obtain⟨rfl,hkg,hqg⟩:=how
        rw[hop]at hk0
        cases hk0
        obtain⟨nmA,nmB,hTr0,hgood0,_,_,_⟩:=tr_split (T2:=[]) hT1
        have hke:k.e=eput q0.e q0.g.o.dst q0.v∧k.st=q0.f.ap q0.st:=by
         exact tr_head hT1
        obtain⟨hke1,hke2⟩:=hke
        rw[hke1,hke2]at hrun
        rw[hke1]
        simp only[HS,hS0,if_true]
        generalize q0.f=f0 at*
        generalize q0.v=v0 at*
        cases hgood0 with
        | skip hw0=>rw[hqg]at hw0;cases hw0
        | p _ h _=>rw[hq0]at h;cases h
        | r _ h _=>rw[hq0]at h;cases h
        | w _ h _=>rw[hq0]at h;cases h
        | n _ h hno=>
          rw[hq0]at h
          cases h
          simp only[NO.run]at hno
          split at hno
          ·cases hno
           simp only[Eff.ap,RO.run,AO.ev,eget_eput,hd0,if_true,rdCells,hget]at hrun⊢
           exact hrun
          ·cases hno
   have key:∀(Ta:List En) (R:List En),T2++k::T1=Ta++R→(∀q∈Ta,q∈T2)→(∀q∈Ta,S q.g.i=true→∀s,q.f≠.post s)→RO.run (AO.ev (ES S e0 (T2++k::T1))) (HS S st0 R).h p=some v→
     RO.run (AO.ev (ES S e0 (T2++k::T1))) (HS S st0 (T2++k::T1)).h p=some v:=by
    intro Ta R hs hin hnp hr
    have hp:=HS_push (st0:=st0) (R:=R) hnp
    rw[←hs]at hp
    rw[hp]
    refine RO.grow (fun n ob hob=> ?_) hr
    rw[hget_append]
    cases hy:hget (news S Ta) n with
    | none=>exact hob
    | some c=>
      obtain⟨q,hq,h1,h2⟩:=news_mem hy
      rw[inv.x4 Ta R hs hnp q hq h1 n c h2]at hob
      cases hob
   have hread:RO.run (AO.ev (ES S e0 (T2++k::T1))) (HS S st0 (T2++k::T1)).h p=some v:=by
    have last:∀(Tz:List En),(∀q∈Tz,S q.g.i=true→∀s,q.f≠.post s)∨∃Ta q Tb s,Tz=Ta++q::Tb∧(∀q∈Ta,S q.g.i=true→∀s,q.f≠.post s)∧S q.g.i=true∧q.f= .post s:=by
     intro Tz
     induction Tz with
     | nil=>exact .inl (fun q hq=>nomatch hq)
     | cons q Tz ih=>
       by_cases hq:S q.g.i=true∧∃s,q.f= .post s
       ·obtain⟨h1,s,h2⟩:=hq
        exact .inr ⟨[],q,Tz,s,rfl,(fun r hr=>nomatch hr),h1,h2⟩
       ·have hq':S q.g.i=true→∀s,q.f≠.post s:=fun h1 s h2=>hq ⟨h1,s,h2⟩
        rcases ih with ih | ⟨Ta,r,Tb,s,h1,h2,h3,h4⟩
        ·exact .inl (fun r hr=>by rcases List.mem_cons.1 hr with rfl | hr;exact hq';exact ih r hr)
        ·refine .inr ⟨q::Ta,r,Tb,s,by rw[h1];rfl,fun z hz=> ?_,h3,h4⟩
         rcases List.mem_cons.1 hz with rfl | hz
         ·exact hq'
         ·exact h2 z hz
    rcases last T2 with hnp | ⟨Ta,q,Tb,s,hT2,hnp,hSq,hqf⟩
    ·refine key T2 (k::T1) rfl (fun q hq=>hq) hnp ?_
     simp only[HS,hnS,Bool.false_eq_true,if_false]
     rw[RO.congr ag1]
     exact hrun1
    ·have hqT2:q∈T2:=by rw[hT2];simp
     have hres:=(later q hqT2 hSq).2.2.2 hisR ((kinds q (by simp[hqT2])).1 s hqf)
     have hTq:T2++k::T1=Ta++q::(Tb++k::T1):=by rw[hT2];simp
     refine key Ta (q::(Tb++k::T1)) hTq (fun z hz=>by rw[hT2];exact List.mem_append_left _ hz) hnp ?_
     simp only[HS,hSq,if_true,hqf,Eff.ap]
     rw[hTq]at hT hpw
     obtain⟨_,_,hTr,_,_,_,hre'⟩:=tr_split hT
     obtain⟨_,_,hpr'⟩:=pw_split hpw
     have neb:∀z∈q::Tb,z.g.i≠k.g.i:=fun z hz=>ne2 z (by rw[hT2];exact List.mem_append_right _ hz)
     have hgf:=gfind_split (T1:=T1) neb
     obtain⟨o1,ho1,hREF⟩:=hre' _ hres
     obtain⟨o2,ho2,hREO⟩:=hpr' _ hres
     simp only[List.cons_append,List.map_cons]at hgf ho1 ho2 hREO
     rw[hgf]at ho1 ho2
     cases ho1;cases ho2
     obtain⟨hro1,hro2⟩:=reOK_split (T2:=q::Tb) (T1:=T1) neb (by simpa using hREO)
     have hfq:eput q.e q.g.o.dst q.v=ES (fun _=>true) e0 ((q::Tb)++k::T1):=by
      simp only[List.cons_append,ES,if_true]
      rw[(tr_full hTr).1]
     have henv:∀x,(∀z∈q::Tb,z.g.o.dst≠some x)→eget (eput q.e q.g.o.dst q.v) x=eget (eput k.e k.g.o.dst v) x:=by
      intro x hx
      rw[hfq,ES_skip (fun z hz _=>hx z hz)]
      simp only[ES,if_true,full1,hv]
     have hreads:∀x∈k.g.o.reads,eget (eput q.e q.g.o.dst q.v) x=eget k.e x:=by
      intro x hx
      rw[henv x (fun z hz=>(hro1 z hz).1 x hx),eget_eput,if_neg (hro2 x hx)]
     obtain⟨bg1,bg2⟩:=reads_agree hreads
     obtain⟨p',d',hp',hd',hrr⟩:=hREF (by rw[bg2];exact hw)
     rw[hop]at hp'
     cases hp'
     rw[henv d' (fun z hz=>(hro1 z hz).2 d' hd'),eget_eput,if_pos hd',hqf]at hrr
     rw[hop]at bg1
     rw[RO.congr bg1]at hrr
     rw[RO.congr ag1]
     exact hrr
   simp only[MI.run,ag2,hw,hop,MO.run]
   rw[hread]
 | @n p v bb hw hop hrun=>
   rw[hop]at ag1 hm
   have hisN:k.g.o.isN=true:=by simp[MI.isN,hop]
   have hnp:∀q∈T2,S q.g.i=true→∀s,q.f≠.post s:=by
    intro q hq hs s hqf
    have:=((later q hq hs).2.1 hisN).2
    rw[(kinds q (by simp[hq])).1 s hqf]at this
    cases this
   have hn:=inv.un k (by simp) hnS nm1 bb hf
   rw[←NO.congr ag1]at hrun
   obtain⟨N',u,w',a1,a2,a3,a4,a5⟩:=NO_sound hm (evs_of inv.env) (fun _=>rfl) inv.sr.hr hn hrun
   have hwant:=wanted_of inv.env hg (by rw[ag2];exact hw)
   have hdef:∀c,o.op≠.defer c:=by
    intro c e'
    rw[e']at hm
    have:=chkM_defer (X:=X) (c:=c) (m:= .n p) (by simp)
    rw[chkM]at hm this
    rw[this]at hm
    cases hm
   have hd:∀q,k.g.o.dst=some q→q<t.size:=by
    intro q hq
    rw[←hdst,hq]at hlt
    have hlt':q<Sz:=by simpa using hlt
    omega
   have hTS:HS (setS S k.g.i) st0 T1=HS S st0 T1:=HS_agree (fun p hp=> .inl (setS_ne (ne1 p hp)))
   have hnews:news (setS S k.g.i) T2=news S T2:=news_agree (fun q hq=>setS_ne (ne2 q hq))
   have hH:HS S st0 (T2++k::T1)=⟨news S T2++(HS S st0 T1).h,(HS S st0 T1).nx⟩:=by
    rw[HS_push hnp]
    simp only[HS,hnS,Bool.false_eq_true,if_false]
   have hH':HS (setS S k.g.i) st0 (T2++k::T1)=⟨news S T2++(nm1,bb)::(HS S st0 T1).h,(HS S st0 T1).nx⟩:=by
    rw[HS_push (fun q hq hs=>hnp q hq (by rw[setS_ne (ne2 q hq)]at hs;exact hs)),hnews]
    simp only[HS,setS_eq,if_true,hf,Eff.ap,hTS]
   have hheq:∀m ob,hget (HS (setS S k.g.i) st0 (T2++k::T1)).h m=some ob→hget ((nm1,bb)::(HS S st0 (T2++k::T1)).h) m=some ob:=by
    intro m ob hob
    rw[hH']at hob
    rw[hH]
    simp only[hget,hget_append]at hob⊢
    by_cases he:nm1=m
    ·rw[if_pos he]at hob⊢
     cases hy:hget (news S T2) m with
     | none=>rw[hy]at hob;exact hob
     | some c=>
       exfalso
       obtain⟨q,hq,_,hqf⟩:=news_mem hy
       have:=hlater q hq m c hqf
       omega
    ·rw[if_neg he]at hob⊢
     exact hob
   have hnx:=inv.nx
   refine⟨N',putT t k.g.o.dst u,w',⟨fun x=> ?_,⟨a3.weaken hheq,fun n hn'=> ?_⟩,inv.gd.trans (a4.sub hheq),?_,fun n hn'=> ?_,fun q hq hs n b' hf'=> ?_,?_,cl'⟩,putT_size _ _ _,
    by rw[hdst];exact .one (fr_op_value ho hwant hdef a1 rfl)⟩
   ·rw[egeteq]
    exact((inv.env.mono a4.le).put hd a2) x
   ·rw[hH']at hn'
    rw[hH]at hnx
    simp only at hn' hnx
    rw[a5 n (by omega)]
    exact inv.sr.fresh n (by rw[hH];exact hn')
   ·rw[hH'];rw[hH]at hnx;exact hnx
   ·rw[a5 n (by omega)];exact inv.old n hn'
   ·obtain⟨u1,u2⟩:=unS q hq hs
    rw[a5 n ?_]
    ·exact inv.un q hq u1 n b' hf'
    ·rcases List.mem_append.1 hq with h | h
     ·have:=hlater q h n b' hf'
      omega
     ·rcases List.mem_cons.1 h with rfl | h
      ·exact absurd rfl u2
      ·have:=names1.2 q h n b' hf'
       omega
   ·exact x4_step hT inv hnS ne1 ne2 (fun _ _ _=>hnp) (fun s h=>by rw[hf]at h;cases h)
 | @w p v s hw hop hrun=>
   have hisW:k.g.o.isW=true:=by simp[MI.isW,hop]
   have hnp:∀q∈T2,S q.g.i=true→∀s,q.f≠.post s:=by
    intro q hq hs s hqf
    have:=(later q hq hs).2.2.1 hisW
    rw[(kinds q (by simp[hq])).1 s hqf]at this
    cases this
   have hT1:HS S st0 T1=k.st:=by
    refine(HS_agree (S':=fun _=>true) (fun q hq=> ?_)).trans full2
    cases hs:S q.g.i with
    | true=>exact .inl rfl
    | false=>
      right
      obtain⟨_,h2,h3⟩:=earlier q hq hs
      by_cases hn:q.f= .non
      ·exact hn
      ·exfalso
       rcases(kinds q (by simp[hq])).2.2 hn with h | h
       ·rw[(h2 h).2]at hisW;cases hisW
       ·rw[(h3 h).2]at hisW;cases hisW
   have hH:HS S st0 (T2++k::T1)=⟨news S T2++k.st.h,k.st.nx⟩:=by
    rw[HS_push hnp]
    simp only[HS,hnS,Bool.false_eq_true,if_false,hT1]
   have hnews:news (setS S k.g.i) T2=news S T2:=news_agree (fun q hq=>setS_ne (ne2 q hq))
   have hH':HS (setS S k.g.i) st0 (T2++k::T1)=⟨news S T2++s.h,s.nx⟩:=by
    rw[HS_push (fun q hq hs=>hnp q hq (by rw[setS_ne (ne2 q hq)]at hs;exact hs)),hnews]
    simp only[HS,setS_eq,if_true,hf,Eff.ap]
   have hY:∀n ob,hget (news S T2) n=some ob→hget k.st.h n=none:=by
    intro n ob hob
    obtain⟨q,hq,h1,h2⟩:=news_mem hob
    have:=inv.x4 T2 (k::T1) rfl hnp q hq h1 n ob h2
    simp only[HS,hnS,Bool.false_eq_true,if_false,hT1]at this
    exact this
   have hsub:∀n ob,hget k.st.h n=some ob→hget (news S T2++k.st.h) n=some ob:=by
    intro n ob hob
    rw[hget_append]
    cases hy:hget (news S T2) n with
    | none=>exact hob
    | some c=>rw[hY n c hy]at hob;cases hob
   have hsr:=inv.sr
   have hgd:=inv.gd
   have hnx:=inv.nx
   rw[hH]at hsr hgd hnx
   have hrun':k.g.o.run call (ES S e0 (T2++k::T1)) k.st=some (eput (ES S e0 (T2++k::T1)) k.g.o.dst v,s):=by
    rw[hop]at ag1
    simp only[MI.run,ag2,hw,hop,MO.run]
    rw[WO.congr ag1,hrun]
   obtain⟨N',t',w',a1,a2,a3,a4,a5,a6,a7⟩:=MI_sound hcall hrun' hc ho inv.env hsz ⟨hsr.hr.weaken hsub,hsr.fresh⟩ b d rest kk cs
   obtain⟨r1,r2,r3⟩:=readd hsr.hr a3.hr a4 (fun n ob hob=>by
    obtain⟨q,hq,h1,h2⟩:=news_mem hob
    exact tr_own hT q (by simp[hq]) n ob h2) hY
   simp only at hnx
   refine⟨N',t',w',⟨fun x=>by rw[egeteq];exact a1 x,by rw[hH'];exact⟨r1,a3.fresh⟩,by rw[hH'];exact hgd.trans r2,by rw[hH'];simp only;omega,fun n hn=> ?_,fun q hq hs n bb hf'=> ?_,?_,cl'⟩,a2,a7⟩
   ·rw[a6 n (by omega)];exact inv.old n hn
   ·have:=names.2 q hq n bb hf'
    rw[a6 n (by omega)]
    exact inv.un q hq (unS q hq hs).1 n bb hf'
   ·refine x4_step hT inv hnS ne1 ne2 (fun _ _ _=>hnp) (fun s' h=> ?_)
    rw[hf]at h
    cases h
    exact⟨hnp,r3⟩
end
end Go.Ev

/- Regions whose order is drawn: whatever order is drawn, the region does what the evaluator does. -/
namespace Go.Ev
open Go
variable {X : Cx} {N N' N'' : Nu} {D : ChkD}
variable {call : CallF} {nm0 nm : Nat} {e0 e : Env} {st0 st : St} {A : MT} {T : List En} {N0 : Nu} {w0 w : World} {S : Nat → Bool} {t : Array Value}
theorem filter_lt {p q:Nat→Bool}:∀{l:List Nat},(∀x∈l,q x=true→p x=true)→(∃x∈l,p x=true∧q x=false)→(l.filter q).length<(l.filter p).length
 | [],_,h=>by obtain⟨x,hx,_⟩:=h;cases hx
 | a::l,h,hx=>by
   have hle:∀{l:List Nat},(∀x∈l,q x=true→p x=true)→(l.filter q).length≤(l.filter p).length:=by
    intro l
    induction l with
    | nil=>intro _;exact Nat.le_refl _
    | cons a l ih=>
      intro h
      have:=ih (fun x hx=>h x (List.mem_cons_of_mem _ hx))
      have ha:=h a List.mem_cons_self
      simp only[List.filter_cons]
      split
      ·rename_i hq
       rw[if_pos (ha hq)]
       simp only[List.length_cons];omega
      ·split
       ·simp only[List.length_cons];omega
       ·exact this
   obtain⟨x,hx,h1,h2⟩:=hx
   rcases List.mem_cons.1 hx with rfl | hx
   ·simp only[List.filter_cons,h1,h2,if_true,Bool.false_eq_true,if_false,List.length_cons]
    exact Nat.lt_succ_of_le (hle (fun y hy=>h y (List.mem_cons_of_mem _ hy)))
   ·have ih:=filter_lt (fun y hy=>h y (List.mem_cons_of_mem _ hy)) ⟨x,hx,h1,h2⟩
    have ha:=h a List.mem_cons_self
    simp only[List.filter_cons]
    split
    ·rename_i hq
     rw[if_pos (ha hq)]
     simp only[List.length_cons];omega
    ·split
     ·simp only[List.length_cons];omega
     ·exact ih
def cnt (ops:Array Oper) (listed:Array Bool):Nat:=((List.range ops.size).filter fun i=> !listed.getD i true).length
def SofL (listed:Array Bool):Nat→Bool:=fun i=>listed.getD i false
theorem getD_tf {listed:Array Bool} {i:Nat} (h:i<listed.size) (a b:Bool):listed.getD i a=listed.getD i b:=by
 simp[Array.getD,h]
theorem SofL_set {listed:Array Bool} {j:Nat} (h:j<listed.size):SofL (listed.setIfInBounds j true)=setS (SofL listed) j:=by
 funext i
 simp only[SofL,setS,Array.getD_eq_getD_getElem?,Array.getElem?_setIfInBounds]
 by_cases e:i=j
 ·subst e;simp[h]
 ·rw[if_neg e,if_neg (fun h=>e h.symm)]
theorem ready_spec {md:Region.Mode} {ops:Array Oper} {listed:Array Bool} {j:Nat} (h:j∈Region.ready md ops listed):
  j<ops.size∧listed.getD j true=false∧∃o,ops[j]? =some o∧∀e∈o.after.toList,Region.binds md e=true→listed.getD e.on false=true:=by
 unfold Region.ready at h
 simp only[List.mem_filter,List.mem_range,bool_and,Bool.not_eq_true']at h
 obtain⟨h1,h2,h3⟩:=h
 refine⟨h1,h2,?_⟩
 cases ho:ops[j]? with
 | none=>rw[ho]at h3;cases h3
 | some o=>
   rw[ho]at h3
   refine⟨o,rfl,fun e he hb=> ?_⟩
   simp only[Option.map_some,Option.getD_some,Array.all_eq_true_iff_forall_mem,Bool.or_eq_true,Bool.not_eq_true']at h3
   rcases h3 e (by simpa using he)with h | h
   ·rw[hb]at h;cases h
   ·exact h
theorem ready_of {md:Region.Mode} {ops:Array Oper} {listed:Array Bool} {j:Nat} {o:Oper} (h1:j<ops.size) (h2:listed.getD j true=false) (ho:ops[j]? =some o)
  (h3:∀e∈o.after.toList,Region.binds md e=true→listed.getD e.on false=true):j∈Region.ready md ops listed:=by
 unfold Region.ready
 simp only[List.mem_filter,List.mem_range,bool_and,Bool.not_eq_true']
 refine⟨h1,h2,?_⟩
 rw[ho]
 simp only[Option.map_some,Option.getD_some,Array.all_eq_true_iff_forall_mem,Bool.or_eq_true,Bool.not_eq_true']
 intro e he
 cases hb:Region.binds md e with
 | false=>exact .inl rfl
 | true=>exact .inr (h3 e (by simpa using he) hb)
theorem go_sound {Sz:Nat} {ops:Array Oper} (hcall:CallOK D X call) (hT:Tr call nm0 e0 st0 T nm e st) (hnm:nm≤st0.nx) (hpw:pwOK A (T.map En.g)=true)
  (hcover:∀i,i<ops.size→∃k∈T,k.g.i=i) (hchk:∀k∈T,∃o,ops[k.g.i]? =some o∧chkI X Sz ops k.g.o o=true) (hon:onOK ops=true) (hanc:ancOK A ops=true)
  (b:Frame) (d:List Deferred) (kk:List Item) (cs:List Frame):
  ∀(fuel tt:Nat) (listed:Array Bool) (N:Nu) (t:Array Value) (w:World),listed.size=ops.size→Inv D X nm0 e0 st0 A T N0 w0 (SofL listed) N t w→cnt ops listed≤fuel→Sz≤t.size→
   ∃N' t' w' S',(∀k∈T,S' k.g.i=true)∧Inv D X nm0 e0 st0 A T N0 w0 S' N' t' w'∧t'.size=t.size∧
    Steps X.P (lone (Fr b t d (.inRegion ops (Region.linearise.go .any ops fuel tt listed [])::kk)) cs w) (lone (Fr b t' d (.inRegion ops []::kk)) cs w'):=by
 have lt_of:∀k∈T,k.g.i<ops.size:=fun k hk=>by
  obtain⟨o,ho,_⟩:=hchk k hk
  exact(Array.getElem?_eq_some_iff.1 ho).1
 intro fuel
 induction fuel with
 | zero=>
   intro tt listed N t w hl inv hcnt hsz
   refine⟨N,t,w,SofL listed,fun k hk=> ?_,inv,rfl,.refl _ _⟩
   have hlt:=lt_of k hk
   cases hq:SofL listed k.g.i with
   | true=>rfl
   | false=>
     exfalso
     have:k.g.i∈(List.range ops.size).filter fun i=> !listed.getD i true:=by
      simp only[List.mem_filter,List.mem_range,Bool.not_eq_true']
      exact⟨hlt,by rw[getD_tf (by omega) true false];exact hq⟩
     have:=List.length_pos_of_mem this
     simp only[cnt]at hcnt
     omega
 | succ fuel ih=>
   intro tt listed N t w hl inv hcnt hsz
   simp only[Region.linearise.go]
   change∃N' t' w' S',_∧_∧_∧Steps X.P (lone (Fr b t d (.inRegion ops (match (Region.ready .any ops listed)[tt % (Region.ready .any ops listed).length]? with
    | some i=>Region.linearise.go .any ops fuel (tt / (Region.ready .any ops listed).length) (listed.setIfInBounds i true) [i]
    | none=>[].reverse)::kk)) cs w) _
   cases hi:(Region.ready .any ops listed)[tt % (Region.ready .any ops listed).length]? with
   | none=>
     have hnil:Region.ready .any ops listed=[]:=by
      cases hr:Region.ready .any ops listed with
      | nil=>rfl
      | cons x xs=>
        rw[hr]at hi
        have hlt:tt % (x::xs).length<(x::xs).length:=Nat.mod_lt _ (by simp)
        simp at hi
        simp at hlt
        omega
     have all:∀i,i<ops.size→SofL listed i=true:=by
      intro i
      induction i using Nat.strongRecOn with
      | ind i ih'=>
        intro hlt
        cases hq:SofL listed i with
        | true=>rfl
        | false=>
          exfalso
          have ho:ops[i]? =some ops[i]:=Array.getElem?_eq_getElem hlt
          have:i∈Region.ready .any ops listed:=ready_of hlt (by rw[getD_tf (by omega) true false];exact hq) ho (fun e he hb=>by
           have h1:=hon
           simp only[onOK,List.all_eq_true,List.mem_range]at h1
           have h2:=h1 i hlt
           rw[ho]at h2
           simp only[List.all_eq_true,Bool.or_eq_true,Bool.not_eq_true',decide_eq_true_eq]at h2
           rcases h2 e he with h3 | h3
           ·rw[hb]at h3;cases h3
           ·exact ih' e.on h3 (by omega))
          rw[hnil]at this
          cases this
     refine⟨N,t,w,SofL listed,fun k hk=>all _ (lt_of k hk),inv,rfl,?_⟩
     exact .refl _ _
   | some j=>
     simp only[]
     rw[linearise_go_acc,List.reverse_singleton,List.singleton_append]
     obtain⟨r1,r2,o,ho,r3⟩:=ready_spec (List.mem_of_getElem? hi)
     obtain⟨k,hk,rfl⟩:=hcover j r1
     obtain⟨o',ho',hc⟩:=hchk k hk
     rw[ho]at ho'
     cases ho'
     obtain⟨T2,T1,rfl⟩:=List.append_of_mem hk
     have hrd:∀a,ltA A a k.g.i=true→SofL listed a=true:=by
      intro a ha
      have h1:=hanc
      simp only[ancOK,List.all_eq_true,List.mem_range]at h1
      have h2:=h1 k.g.i r1
      rw[ho]at h2
      simp only[decide_eq_true_eq]at h2
      have ha':(maskOf A.get o).testBit a=true:=by rw[←h2];exact ha
      obtain⟨e,he,hb,h3⟩:=maskL_spec ha'
      have h4:=r3 e he hb
      rcases h3 with h3 | h3
      ·rw[←h3];exact h4
      ·exact inv.cl e.on h4 a h3
     obtain⟨N1,t1,w1,i1,i2,i3⟩:=inv.step hcall hT hnm hpw (by rw[getD_tf (by omega) true false]at r2;exact r2) hrd ho hc hsz b d
      (Region.linearise.go .any ops fuel (tt / (Region.ready .any ops listed).length) (listed.setIfInBounds k.g.i true) []) kk cs
     rw[←SofL_set (by omega)]at i1
     have hdec:cnt ops (listed.setIfInBounds k.g.i true)<cnt ops listed:=by
      refine filter_lt (fun x hx hq=> ?_) ⟨k.g.i,List.mem_range.2 r1,by simp[r2],?_⟩
      ·simp only[Bool.not_eq_true']at hq⊢
       have hx':=List.mem_range.1 hx
       simp only[Array.getD_eq_getD_getElem?,Array.getElem?_setIfInBounds]at hq⊢
       split at hq
       ·split at hq <;> simp at hq
       ·exact hq
      ·simp only[Bool.not_eq_false',Array.getD_eq_getD_getElem?,Array.getElem?_setIfInBounds,if_true]
       rw[if_pos (by omega)]
       rfl
     obtain⟨N2,t2,w2,S2,j1,j2,j3,j4⟩:=ih (tt / (Region.ready .any ops listed).length) (listed.setIfInBounds k.g.i true) N1 t1 w1 (by simp[hl]) i1 (by omega) (by omega)
     exact⟨N2,t2,w2,S2,j1,j2,by omega,i3.trans j4⟩
theorem drawOK (hmix:X.P.follows .mixedOrders=true):DrawOK chkD X:=by
 intro call hcall Sz ops L e0 st e' st' hrun hchk N b t d k cs w tt he hs hr
 unfold chkD at hchk
 split at hchk
 ·cases hchk
 ·rename_i gs hgs
  simp only[bool_and,decide_eq_true_eq,List.all_eq_true,List.mem_range,List.any_eq_true]at hchk
  obtain⟨hlen,hcov,hchkI,hon,hanc,hpw⟩:=hchk
  obtain⟨T,nm,hT,hmap,hnm⟩:=tr_of_runR (call:=call) (nm0:=st.nx) (e0:=e0) (st0:=⟨st.h,st.nx+L.length⟩) L [] st.nx e0 e' ⟨st.h,st.nx+L.length⟩ st' [] gs hrun .nil (fun j=>rfl) hgs
  have hHS0:∀T:List En,HS (SofL (Array.replicate ops.size false)) ⟨st.h,st.nx+L.length⟩ T=⟨st.h,st.nx+L.length⟩:=by
   intro T
   induction T with
   | nil=>rfl
   | cons q T ih=>
     simp only[HS,ih]
     rw[if_neg]
     simp[SofL,Array.getD]
  have hS0:∀i,SofL (Array.replicate ops.size false) i=false:=fun i=>by simp[SofL,Array.getD]
  have hES0:∀T:List En,ES (SofL (Array.replicate ops.size false)) e0 T=e0:=by
   intro T
   induction T with
   | nil=>rfl
   | cons q T ih=>simp only[ES,ih,hS0,Bool.false_eq_true,if_false]
  have inv0:Inv chkD X st.nx e0 ⟨st.h,st.nx+L.length⟩ (mkA ops.toList) T N w (SofL (Array.replicate ops.size false)) N t w:=by
   refine⟨by rw[hES0];exact he,by rw[hHS0];exact⟨hr.hr,fun n hn=>hr.fresh n (by simp only at hn;omega)⟩,by rw[hHS0];exact .refl _ _ _,by rw[hHS0];exact Nat.le_refl _,fun _ _=>rfl,
    fun q hq _ n bb hf=>hr.fresh n (by have:=(tr_names hT).2 q hq n bb hf;omega),fun _ _ _ _ q _ hq=> ?_,fun i hi=> ?_⟩
   ·rw[hS0]at hq;cases hq
   ·rw[hS0]at hi;cases hi
  obtain⟨N',t',w',S',a1,a2,a3,a4⟩:=go_sound (A:=mkA ops.toList) (N0:=N) (w0:=w) hcall hT hnm (by rw[hmap];exact hpw)
   (fun i hi=>by
     obtain⟨g,hg,hgi⟩:=hcov i hi
     rw[←hmap]at hg
     obtain⟨q,hq,rfl⟩:=List.mem_map.1 hg
     exact⟨q,hq,hgi⟩)
   (fun q hq=>by
     have:=hchkI q.g (by rw[←hmap];exact List.mem_map_of_mem hq)
     split at this
     ·rename_i o ho;exact⟨o,ho,this⟩
     ·cases this) hon hanc b d k cs ops.size tt (Array.replicate ops.size false) N t w (by simp) inv0 (by
     simp only[cnt]
     have:=List.length_filter_le (fun i=> !(Array.replicate ops.size false).getD i true) (List.range ops.size)
     simpa using this) hs
  have hES:∀x,eget (ES S' e0 T) x=eget e' x:=fun x=>by
   rw[ES_agree (S':=fun _=>true) (fun q hq=> .inl (a1 q hq)),(tr_full hT).1]
  have hHS:HS S' ⟨st.h,st.nx+L.length⟩ T=st':=by
   rw[HS_agree (S':=fun _=>true) (fun q hq=> .inl (a1 q hq)),(tr_full hT).2]
  have hsr:=a2.sr
  have hgd:=a2.gd
  have hnx:=a2.nx
  rw[hHS]at hsr hgd hnx
  refine⟨N',t',w',fun x=>by rw[←hES];exact a2.env x,a3,hsr,hgd,by simp only at hnx;omega,a2.old,?_⟩
  simp only[Region.schedule,hmix,Bool.true_or,if_true]
  exact a4
end Go.Ev

/- The functions of a program: their numbers, their abstract bodies, and the check that these belong together. -/
namespace Go.Ev
open Go
inductive NT where
 | nil
 | node (l:NT) (k v:Nat) (r:NT)
def NT.get:NT→Nat→Nat
 | .nil,_=>999999
 | .node l k v r,n=>if n=k then v else if n<k then l.get n else r.get n
inductive FT where
 | nil
 | node (l:FT) (k:Nat) (v:MFun) (r:FT)
def FT.get:FT→Nat→Option MFun
 | .nil,_=>none
 | .node l k v r,n=>if n=k then some v else if n<k then l.get n else r.get n
def FT.All (P:Nat→MFun→Prop):FT→Prop
 | .nil=>True
 | .node l k v r=>l.All P∧P k v∧r.All P
theorem FT.get_all {P:Nat→MFun→Prop}:∀{t:FT} {n:Nat} {m:MFun},t.All P→t.get n=some m→P n m
 | .nil,_,_,_,h=>by cases h
 | .node l k v r,n,m,⟨h1,h2,h3⟩,h=>by
   simp only[FT.get]at h
   split at h
   ·rename_i e;subst e;cases h;exact h2
   ·split at h
    ·exact FT.get_all h1 h
    ·exact FT.get_all h3 h
def FnOK (X:Cx) (f:Nat) (mf:MFun):Prop:=∃fn c S,X.P.funcs[X.φ f]? =some fn∧fn.body=some c∧(fn.name == "runtime.NumGoroutine")=false∧S≤fn.ntmps∧
 chkC chkD X S mf.body c=true∧chkRess X mf.results fn.results.toList=true
def fnChk (X:Cx) (mf:MFun) (fn:Func):Bool:=
 match fn.body with
 | some c=> !(fn.name == "runtime.NumGoroutine") && (chkC chkD X fn.ntmps mf.body c && chkRess X mf.results fn.results.toList)
 | none=>false
theorem fnOK_of {X:Cx} {f i:Nat} {mf:MFun} {fn:Func} (hφ:X.φ f=i) (h:X.P.funcs[i]? =some fn) (hc:fnChk X mf fn=true):FnOK X f mf:=by
 unfold fnChk at hc
 split at hc
 ·rename_i c hb
  simp only[bool_and,Bool.not_eq_true']at hc
  exact⟨fn,c,fn.ntmps,by rw[hφ];exact h,hb,hc.1,Nat.le_refl _,hc.2.1,hc.2.2⟩
 ·cases hc
theorem tabOK_of {X:Cx} {t:FT} {en:Nat→Option Entry} (h:t.All (FnOK X)) (he:∀f F,en f=some F→EntryOK chkD X f F):TabOK chkD X ⟨t.get,en⟩:=
 ⟨fun _ _ _ hf=>FT.get_all h hf,he⟩
end Go.Ev

/- A law: its call, from the evaluator's word. -/
namespace Go.Ev
open Go Go.RowKit
variable {X : Cx} {N N' N'' : Nu} {D : ChkD}
theorem exec_calls {ex:ExF} {T:Tab} (hx:CodeOK D X ex) (hT:TabOK D X T) {f:Nat} {mf:MFun} (hen:T.en f=none) (hmf:T.fn f=some mf) {args:List AV} {st st1:St} {x:Ex} {e':Env} {b:Bool}
  (hex:ex mf.body (argEnv 0 args) st=some (x,e',st1)) (hxr:x= .norm∨x= .ret) (hv:fresults st1.h e' mf.results=some (.bool b)) {w:World} {us:List Value} (hr:SR D X N st w)
  (ha:VRs X N args us) (hown:∀k,¬Own N st.h k):
  Calls X.P (X.φ f) us.toArray w fun e w'=>e= .returned (.bool b)∧Below w.heap.size w w':=by
 intro cs
 obtain⟨fn,code,S,hf,hbody,hname,hS,hchk,hres⟩:=hT.fn f mf hen hmf
 let b0:Frame:={(default:Frame)with fn:=X.φ f,kind:= .normal}
 let t0:Array Value:=us.toArray++Array.replicate (fn.ntmps - us.toArray.size) undef
 have henter:Frame.enter X.P (X.φ f) us.toArray .normal=Fr b0 t0 [] [.code code]:=by
  simp[Frame.enter,Fr,hf,hbody,b0,t0];rfl
 have hsize:S≤t0.size:=by simp[t0];omega
 obtain⟨N1,t1,d1,w1,a1,a2,a3,a4,a5,a6,a7,_,a9⟩:=hx mf.body code S (argEnv 0 args) st x e' st1 hex hchk N b0 t0 [] [] cs w w.heap.size (EnvR.args ha _) hsize hr ⟨[],rfl,List.nodup_nil,by simp⟩ (Nat.le_refl _) (.inl rfl)
 have a9:=a9 _ rfl
 obtain⟨rs,rfl,hrn,hrd⟩:=a7
 obtain⟨todo,hret⟩:∃todo,Steps X.P (lone (Fr b0 t0 [] [.code code]) cs w) (lone {Fr b0 t1 (rs.map fun r=>{target:= .collected r,args:= #[]}) todo with mode:= .returning} cs w1):=by
  rcases hxr with rfl | rfl
  ·exact⟨[],Steps.trans a9 (.one (fr_end rfl))⟩
  ·obtain⟨k2,M',hk2,hk3⟩:=a9
   exact⟨_,Steps.trans hk2 (.one (hk3.trans (fr_ret rfl)))⟩
 obtain⟨w2,b1,b2,b3,b4,b5,b6,b7⟩:=unwind_marks (b:=b0) (t:=t1) (todo:=todo) (cs:=cs) (B:=w.heap.size) rs w1 a3.hr hrn hrd
 obtain⟨u,r1,r2⟩:=results_sound b2 a1 hres hv
 cases r2
 refine⟨.returned (.bool b),w2,{Fr b0 t1 [] todo with mode:= .returning},⟨rfl,b5.trans a4.os,b4.trans a4.tape,b6.trans a4.output,by rw[b3];exact a4.size,fun k hk=>by rw[b7 k hk];exact a4.frame k hk (hown k)⟩,?_,rfl,rfl,rfl,rfl,fn,hf,r1⟩
 rw[henter]
 exact Steps.trans hret b1
end Go.Ev

/- The evaluator without fuel: what it comes to, and its equations. -/
namespace Go.Ev
open Go
def ELe (f g:ExF):Prop:=∀c e st r,f c e st=some r→g c e st=some r
def CLe (f g:CallF):Prop:=∀a args st r,f a args st=some r→g a args st=some r
theorem WO.mono {f g:CallF} (h:CLe f g) {ev:AO→AV} {st:St} {o:WO} {r:AV×St} (hr:WO.run f ev st o=some r):WO.run g ev st o=some r:=by
 cases o with
 | call x xs=>exact h _ _ _ _ hr
 | _=>exact hr
theorem MO.mono {f g:CallF} (h:CLe f g) {ev:AO→AV} {st:St} {o:MO} {r:AV×St} (hr:MO.run f ev st o=some r):MO.run g ev st o=some r:=by
 cases o with
 | w p=>exact WO.mono h hr
 | _=>exact hr
theorem MI.mono {f g:CallF} (h:CLe f g) {o:MI} {e:Env} {st:St} {r:Env×St} (hr:o.run f e st=some r):o.run g e st=some r:=by
 unfold MI.run at hr⊢
 split at hr <;> rename_i hw
 ·split at hr <;> rename_i h1
  ·rw[MO.mono h h1];exact hr
  ·cases hr
 ·exact hr
 ·cases hr
theorem runOps_mono {f g:CallF} (h:CLe f g):∀{l:List MI} {e:Env} {st:St} {r:Env×St},runOps f l e st=some r→runOps g l e st=some r
 | [],_,_,_,hr=>hr
 | o::l,e,st,r,hr=>by
   simp only[runOps]at hr⊢
   split at hr <;> rename_i h1
   ·rw[MI.mono h h1];exact runOps_mono h hr
   ·cases hr
theorem runI_mono {f g:CallF} (h:CLe f g) {nm:Nat} {o:MI} {e:Env} {st:St} {r:Env×St×Nat} (hr:runI f nm o e st=some r):runI g nm o e st=some r:=by
 unfold runI at hr⊢
 split at hr <;> rename_i hw
 ·split at hr
  ·exact hr
  ·split at hr <;> rename_i h1
   ·rw[MO.mono h h1];exact hr
   ·cases hr
 ·exact hr
 ·cases hr
theorem runR_mono {f g:CallF} (h:CLe f g):∀{l:List RI} {d:List (Nat×MI)} {nm:Nat} {e:Env} {st:St} {r:Env×St},runR f d nm l e st=some r→runR g d nm l e st=some r
 | [],_,_,_,_,_,hr=>hr
 | .op i o::l,d,nm,e,st,r,hr=>by
   simp only[runR]at hr⊢
   split at hr <;> rename_i h1
   ·rw[runI_mono h h1];exact runR_mono h hr
   ·cases hr
 | .re i::l,d,nm,e,st,r,hr=>by
   simp only[runR]at hr⊢
   split at hr
   ·rename_i h1;rw[if_pos h1];exact runR_mono h hr
   ·cases hr
theorem evCallF_mono {T:Tab} {f g:ExF} (h:ELe f g) {k:Nat} {args:List AV} {st:St} {r:AV×St} (hr:evCallF T f k args st=some r):evCallF T g k args st=some r:=by
 unfold evCallF at hr⊢
 split at hr
 ·exact hr
 ·split at hr
  ·cases hr
  ·split at hr
   ·rename_i hl
    rw[if_pos hl]
    split at hr <;> rename_i h1
    ·rw[h _ _ _ _ h1];exact hr
    ·rw[h _ _ _ _ h1];exact hr
    ·cases hr
   ·cases hr
theorem evYield_mono {f g:ExF} (h:ELe f g) {l:Nat} {args:List AV} {st:St} {r:AV×St} (hr:evYield f l args st=some r):evYield g l args st=some r:=by
 unfold evYield at hr⊢
 split at hr
 ·split at hr
  ·rename_i hl
   rw[if_pos hl]
   split at hr <;> rename_i h1
   ·rw[h _ _ _ _ h1]
    simp only
    split at hr <;> rename_i h2
    ·split at hr <;> rename_i h3
     ·rw[h _ _ _ _ h3];exact hr
     ·cases hr
    ·cases hr
   ·cases hr
  ·cases hr
 ·cases hr
theorem evCall_mono {T:Tab} {f g:ExF} (h:ELe f g):CLe (evCall T f) (evCall T g):=by
 intro a args st r hr
 unfold evCall at hr⊢
 split at hr
 ·exact evCallF_mono h hr
 ·exact evYield_mono h hr
 ·cases hr
theorem rounds_mono {f g:CallF} (hf:CLe f g) {ex ey:ExF} (hx:ELe ex ey) {nx more pair:Nat} {post:List MI} {ks:List Nat} {body:MCode} {e:Env} {st:St}:
  ∀{es:List (AV×AV)} {u:Unit},rounds f ex nx more pair post ks body e st es=some u→rounds g ey nx more pair post ks body e st es=some u
 | [],_,h=>h
 | (k,v)::r,u,h=>by
   simp only[rounds]at h⊢
   split at h
   case h_2=>cases h
   rename_i h1
   rw[runOps_mono hf h1]
   simp only
   split at h
   case h_2=>cases h
   rename_i h2
   rw[hx _ _ _ _ h2]
   simp only
   split at h
   case isFalse=>cases h
   rename_i h3
   rw[if_pos h3]
   exact rounds_mono hf hx h
theorem evStep_mono {T:Tab} {f g:ExF} (h:ELe f g):ELe (evStep T f) (evStep T g):=by
 have hc:=evCall_mono (T:=T) h
 intro c e st r hr
 cases c with
 | skip=>exact hr
 | reg l=>
   simp only[evStep]at hr⊢
   split at hr <;> rename_i h1
   ·rw[runOps_mono hc h1];exact hr
   ·cases hr
 | regd l=>
   simp only[evStep]at hr⊢
   split at hr <;> rename_i h1
   ·rw[runR_mono hc h1];exact hr
   ·cases hr
 | seq a b=>
   by_cases hk:∃l,a= .keep l
   ·obtain⟨l,rfl⟩:=hk
    simp only[evStep]at hr⊢
    exact h _ _ _ _ hr
   ·have e1:∀ex:ExF,evStep T ex (.seq a b) e st=(match ex a e st with | some (.norm,e,st)=>ex b e st | r=>r):=by
     intro ex
     cases a <;> first | rfl | exact absurd ⟨_,rfl⟩ hk
    rw[e1]at hr⊢
    split at hr <;> rename_i h1
    ·rw[h _ _ _ _ h1];exact h _ _ _ _ hr
    ·rw[h _ _ _ _ hr]
     split
     ·rename_i e2 st2 heq
      exact absurd hr (by rw[heq];exact h1 e2 st2)
     ·rfl
 | cond x a b=>
   simp only[evStep]at hr⊢
   split at hr
   ·exact h _ _ _ _ hr
   ·exact h _ _ _ _ hr
   ·cases hr
 | block i b=>
   simp only[evStep]at hr⊢
   split at hr <;> rename_i h1
   ·rw[h _ _ _ _ h1];exact hr
   ·rw[h _ _ _ _ hr]
    split
    ·rename_i i2 e2 st2 heq
     exact absurd hr (by rw[heq];exact h1 i2 e2 st2)
    ·rfl
 | loop b=>
   simp only[evStep]at hr⊢
   split at hr <;> rename_i h1
   ·rw[h _ _ _ _ h1];exact h _ _ _ _ hr
   ·rw[h _ _ _ _ hr]
    split
    ·rename_i e2 st2 heq
     exact absurd hr (by rw[heq];exact h1 e2 st2)
    ·rfl
 | scope b=>simp only[evStep]at hr⊢;exact h _ _ _ _ hr
 | rangeFunc f ps a b=>
   simp only[evStep]at hr⊢
   split at hr <;> rename_i h1
   ·rw[hc _ _ _ _ h1];exact hr
   ·cases hr
 | exit i=>exact hr
 | ret=>exact hr
 | keep l=>exact hr
 | rangeMap pre m d nx more pair post ks out next body=>
   simp only[evStep]at hr⊢
   split at hr
   case h_2=>cases hr
   rename_i h1
   simp only[runOps_mono hc h1]
   split at hr
   case h_2=>cases hr
   rename_i h2
   split at hr
   case h_2=>cases hr
   rename_i h3
   split at hr
   case h_2=>cases hr
   rename_i h4
   rw[rounds_mono hc h h4]
   exact hr
 | stuck=>exact hr
theorem exec_mono_succ (T:Tab):∀n,ELe (exec T n) (exec T (n+1))
 | 0=>fun _ _ _ _ h=>by cases h
 | n+1=>evStep_mono (exec_mono_succ T n)
theorem exec_mono (T:Tab) {n m:Nat} (h:n≤m):ELe (exec T n) (exec T m):=by
 induction h with
 | refl=>exact fun _ _ _ _ h=>h
 | step _ ih=>exact fun c e st r hr=>exec_mono_succ T _ c e st r (ih c e st r hr)
open Classical in
noncomputable def run (T:Tab) (c:MCode) (e:Env) (st:St):Option (Ex×Env×St):=
 if h:∃n r,exec T n c e st=some r then exec T h.choose c e st else none
theorem run_iff {T:Tab} {c:MCode} {e:Env} {st:St} {r:Ex×Env×St}:run T c e st=some r↔∃n,exec T n c e st=some r:=by
 unfold run
 constructor
 ·intro h
  split at h
  ·exact⟨_,h⟩
  ·cases h
 ·rintro⟨n,hn⟩
  have h:∃n r,exec T n c e st=some r:=⟨n,r,hn⟩
  rw[dif_pos h]
  obtain⟨r',hr'⟩:=h.choose_spec
  have h1:=exec_mono T (Nat.le_max_left n h.choose) _ _ _ _ hn
  have h2:=exec_mono T (Nat.le_max_right n h.choose) _ _ _ _ hr'
  rw[h1]at h2
  rw[hr',h2]
theorem exec_le_run (T:Tab) (n:Nat):ELe (exec T n) (run T):=fun _ _ _ _ h=>run_iff.2 ⟨n,h⟩
noncomputable def call (T:Tab):CallF:=evCall T (run T)
theorem call_cont {T:Tab} {a:AV} {args:List AV} {st:St} {r:AV×St} (h:call T a args st=some r):∃n,evCall T (exec T n) a args st=some r:=by
 unfold call evCall at h
 split at h
 ·rename_i f first cap
  simp only[evCall]
  unfold evCallF at h⊢
  split at h
  ·exact⟨0,h⟩
  ·split at h
   ·cases h
   ·split at h
    ·rename_i hl
     split at h <;> rename_i h1
     ·obtain⟨n,hn⟩:=run_iff.1 h1
      exact⟨n,by rw[if_pos hl,hn];exact h⟩
     ·obtain⟨n,hn⟩:=run_iff.1 h1
      exact⟨n,by rw[if_pos hl,hn];exact h⟩
     ·cases h
    ·cases h
 ·rename_i l
  simp only[evCall]
  unfold evYield at h⊢
  split at h
  ·split at h
   ·rename_i hl
    split at h <;> rename_i h1
    ·split at h <;> rename_i h2
     ·split at h <;> rename_i h3
      ·obtain⟨n,hn⟩:=run_iff.1 h1
       obtain⟨m,hm⟩:=run_iff.1 h3
       refine⟨max n m,?_⟩
       rw[if_pos hl,exec_mono T (Nat.le_max_left n m) _ _ _ _ hn]
       simp only
       rw[h2]
       simp only
       rw[exec_mono T (Nat.le_max_right n m) _ _ _ _ hm]
       exact h
      ·cases h
     ·cases h
    ·cases h
   ·cases h
  ·cases h
 ·cases h
theorem MO_cont {T:Tab} {ev:AO→AV} {st:St} {o:MO} {r:AV×St} (h:MO.run (call T) ev st o=some r):∃n,MO.run (evCall T (exec T n)) ev st o=some r:=by
 cases o with
 | w p=>
   cases p with
   | call f xs=>exact call_cont h
   | _=>exact⟨0,h⟩
 | _=>exact⟨0,h⟩
theorem MI_cont {T:Tab} {o:MI} {e:Env} {st:St} {r:Env×St} (h:o.run (call T) e st=some r):∃n,o.run (evCall T (exec T n)) e st=some r:=by
 unfold MI.run at h⊢
 split at h
 ·split at h <;> rename_i h1
  ·obtain⟨n,hn⟩:=MO_cont h1
   exact⟨n,by rw[hn];exact h⟩
  ·cases h
 ·exact⟨0,h⟩
 ·cases h
theorem callx_le (T:Tab) {n m:Nat} (h:n≤m):CLe (evCall T (exec T n)) (evCall T (exec T m)):=evCall_mono (exec_mono T h)
theorem runOps_cont {T:Tab}:∀{l:List MI} {e:Env} {st:St} {r:Env×St},runOps (call T) l e st=some r→∃n,runOps (evCall T (exec T n)) l e st=some r
 | [],_,_,_,h=>⟨0,h⟩
 | o::l,e,st,r,h=>by
   simp only[runOps]at h⊢
   split at h <;> rename_i h1
   ·obtain⟨n,hn⟩:=MI_cont h1
    obtain⟨m,hm⟩:=runOps_cont h
    exact⟨max n m,by rw[MI.mono (callx_le T (Nat.le_max_left n m)) hn];exact runOps_mono (callx_le T (Nat.le_max_right n m)) hm⟩
   ·cases h
theorem runI_cont {T:Tab} {nm:Nat} {o:MI} {e:Env} {st:St} {r:Env×St×Nat} (h:runI (call T) nm o e st=some r):∃n,runI (evCall T (exec T n)) nm o e st=some r:=by
 unfold runI at h⊢
 split at h
 ·split at h
  ·exact⟨0,h⟩
  ·split at h <;> rename_i h1
   ·obtain⟨n,hn⟩:=MO_cont h1
    exact⟨n,by rw[hn];exact h⟩
   ·cases h
 ·exact⟨0,h⟩
 ·cases h
theorem runR_cont {T:Tab}:∀{l:List RI} {d:List (Nat×MI)} {nm:Nat} {e:Env} {st:St} {r:Env×St},runR (call T) d nm l e st=some r→∃n,runR (evCall T (exec T n)) d nm l e st=some r
 | [],_,_,_,_,_,h=>⟨0,h⟩
 | .op i o::l,d,nm,e,st,r,h=>by
   simp only[runR]at h⊢
   split at h <;> rename_i h1
   ·obtain⟨n,hn⟩:=runI_cont h1
    obtain⟨m,hm⟩:=runR_cont h
    exact⟨max n m,by rw[runI_mono (callx_le T (Nat.le_max_left n m)) hn];exact runR_mono (callx_le T (Nat.le_max_right n m)) hm⟩
   ·cases h
 | .re i::l,d,nm,e,st,r,h=>by
   simp only[runR]at h⊢
   split at h
   ·rename_i h1
    obtain⟨m,hm⟩:=runR_cont h
    exact⟨m,by rw[if_pos h1];exact hm⟩
   ·cases h
theorem rounds_cont {T:Tab} {nx more pair:Nat} {post:List MI} {ks:List Nat} {body:MCode} {e:Env} {st:St}:
  ∀{es:List (AV×AV)} {u:Unit},rounds (call T) (run T) nx more pair post ks body e st es=some u→∃n,rounds (evCall T (exec T n)) (exec T n) nx more pair post ks body e st es=some u
 | [],_,h=>⟨0,h⟩
 | (k,v)::r,u,h=>by
   simp only[rounds]at h
   split at h
   case h_2=>cases h
   rename_i h1
   split at h
   case h_2=>cases h
   rename_i h2
   split at h
   case isFalse=>cases h
   rename_i h3
   obtain⟨a,ha⟩:=runOps_cont h1
   obtain⟨b,hb⟩:=run_iff.1 h2
   obtain⟨c,hc⟩:=rounds_cont h
   refine⟨max a (max b c),?_⟩
   simp only[rounds]
   rw[runOps_mono (callx_le T (Nat.le_max_left a _)) ha]
   simp only
   rw[exec_mono T (Nat.le_trans (Nat.le_max_left b c) (Nat.le_max_right a _)) _ _ _ _ hb]
   simp only
   rw[if_pos h3]
   have hbc:=Nat.le_trans (Nat.le_max_right b c) (Nat.le_max_right a _)
   exact rounds_mono (callx_le T hbc) (exec_mono T hbc) hc
theorem run_eq (T:Tab) (c:MCode) (e:Env) (st:St):run T c e st=evStep T (run T) c e st:=by
 have fwd:∀r,run T c e st=some r→evStep T (run T) c e st=some r:=by
  intro r h
  obtain⟨n,hn⟩:=run_iff.1 h
  cases n with
  | zero=>cases hn
  | succ n=>exact evStep_mono (exec_le_run T n) _ _ _ _ hn
 have bwd:∀r,evStep T (run T) c e st=some r→run T c e st=some r:=by
  intro r h
  suffices hs:∃n,evStep T (exec T n) c e st=some r by
   obtain⟨n,hn⟩:=hs
   exact run_iff.2 ⟨n+1,hn⟩
  have one:∀{c' e' st' r'},run T c' e' st'=some r'→∃n,∀m,n≤m→exec T m c' e' st'=some r':=by
   intro c' e' st' r' h'
   obtain⟨n,hn⟩:=run_iff.1 h'
   exact⟨n,fun m hm=>exec_mono T hm _ _ _ _ hn⟩
  cases c with
  | skip=>exact⟨0,h⟩
  | reg l=>
    simp only[evStep]at h⊢
    split at h <;> rename_i h1
    ·obtain⟨n,hn⟩:=runOps_cont h1
     exact⟨n,by rw[hn];exact h⟩
    ·cases h
  | regd l=>
    simp only[evStep]at h⊢
    split at h <;> rename_i h1
    ·obtain⟨n,hn⟩:=runR_cont h1
     exact⟨n,by rw[hn];exact h⟩
    ·cases h
  | seq a b=>
    by_cases hk:∃l,a= .keep l
    ·obtain⟨l,rfl⟩:=hk
     simp only[evStep]at h⊢
     exact run_iff.1 h
    ·have e1:∀ex:ExF,evStep T ex (.seq a b) e st=(match ex a e st with | some (.norm,e,st)=>ex b e st | r=>r):=by
      intro ex
      cases a <;> first | rfl | exact absurd ⟨_,rfl⟩ hk
     simp only[e1]at h⊢
     split at h <;> rename_i h1
     ·obtain⟨n,hn⟩:=one h1
      obtain⟨m,hm⟩:=one h
      refine⟨max n m,?_⟩
      rw[hn _ (Nat.le_max_left n m)]
      exact hm _ (Nat.le_max_right n m)
     ·obtain⟨n,hn⟩:=one h
      refine⟨n,?_⟩
      rw[hn n (Nat.le_refl _)]
      split
      ·rename_i e2 st2 heq
       exact absurd h (by rw[heq];exact h1 e2 st2)
      ·rfl
  | cond x a b=>
    simp only[evStep]at h⊢
    split at h
    ·exact run_iff.1 h
    ·exact run_iff.1 h
    ·cases h
  | block i b=>
    simp only[evStep]at h⊢
    split at h <;> rename_i h1
    ·obtain⟨n,hn⟩:=run_iff.1 h1
     exact⟨n,by rw[hn];exact h⟩
    ·obtain⟨n,hn⟩:=run_iff.1 h
     refine⟨n,?_⟩
     rw[hn]
     split
     ·rename_i i2 e2 st2 heq
      exact absurd h (by rw[heq];exact h1 i2 e2 st2)
     ·rfl
  | loop b=>
    simp only[evStep]at h⊢
    split at h <;> rename_i h1
    ·obtain⟨n,hn⟩:=one h1
     obtain⟨m,hm⟩:=one h
     refine⟨max n m,?_⟩
     rw[hn _ (Nat.le_max_left n m)]
     exact hm _ (Nat.le_max_right n m)
    ·obtain⟨n,hn⟩:=one h
     refine⟨n,?_⟩
     rw[hn n (Nat.le_refl _)]
     split
     ·rename_i e2 st2 heq
      exact absurd h (by rw[heq];exact h1 e2 st2)
     ·rfl
  | scope b=>simp only[evStep]at h⊢;exact run_iff.1 h
  | rangeFunc f ps a b=>
    simp only[evStep]at h⊢
    split at h <;> rename_i h1
    ·obtain⟨n,hn⟩:=call_cont h1
     exact⟨n,by rw[hn];exact h⟩
    ·cases h
  | exit i=>exact⟨0,h⟩
  | ret=>exact⟨0,h⟩
  | keep l=>exact⟨0,h⟩
  | rangeMap pre m d nx more pair post ks out next body=>
    simp only[evStep]at h
    split at h
    case h_2=>cases h
    rename_i h1
    split at h
    case h_2=>cases h
    rename_i h2
    split at h
    case h_2=>cases h
    rename_i h3
    split at h
    case h_2=>cases h
    rename_i h4
    obtain⟨a,ha⟩:=runOps_cont h1
    obtain⟨b,hb⟩:=rounds_cont h4
    refine⟨max a b,?_⟩
    simp only[evStep]
    rw[runOps_mono (callx_le T (Nat.le_max_left a b)) ha]
    simp only[h2,h3]
    rw[rounds_mono (callx_le T (Nat.le_max_right a b)) (exec_mono T (Nat.le_max_right a b)) hb]
    exact h
  | stuck=>exact⟨0,h⟩
 cases hr:run T c e st with
 | some r=>exact(fwd r hr).symm
 | none=>
   cases he:evStep T (run T) c e st with
   | none=>rfl
   | some r=>rw[bwd r he]at hr;cases hr
end Go.Ev

/- The evaluator's equations, for rewriting: code by code, operation by operation. -/
namespace Go.Ev
open Go
variable {T : Tab} {e : Env} {st : St}
noncomputable def seqR (T:Tab) (b:MCode):Option (Ex×Env×St)→Option (Ex×Env×St)
 | some (.norm,e,st)=>run T b e st
 | r=>r
@[go_sem] theorem seqR_norm (b:MCode):seqR T b (some (.norm,e,st))=run T b e st:=rfl
@[go_sem] theorem seqR_exit (b:MCode) (i:Nat):seqR T b (some (.exit i,e,st))=some (.exit i,e,st):=rfl
@[go_sem] theorem seqR_ret (b:MCode):seqR T b (some (.ret,e,st))=some (.ret,e,st):=rfl
@[go_sem] theorem seqR_none (b:MCode):seqR T b none=none:=rfl
def opsR (call:CallF) (l:List MI):Option (Env×St)→Option (Env×St)
 | some (e,st)=>runOps call l e st
 | none=>none
@[go_sem] theorem opsR_some (call:CallF) (l:List MI):opsR call l (some (e,st))=runOps call l e st:=rfl
@[go_sem] theorem opsR_none (call:CallF) (l:List MI):opsR call l none=none:=rfl
def opsE:Option (Env×St)→Option (Ex×Env×St)
 | some (e,st)=>some (.norm,e,st)
 | none=>none
@[go_sem] theorem opsE_some:opsE (some (e,st))=some (.norm,e,st):=rfl
@[go_sem] theorem opsE_none:opsE none=none:=rfl
def blockE (i:Nat):Option (Ex×Env×St)→Option (Ex×Env×St)
 | some (.exit j,e,st)=>if j=i then some (.norm,e,st)else some (.exit j,e,st)
 | r=>r
@[go_sem] theorem blockE_norm (i:Nat):blockE i (some (.norm,e,st))=some (.norm,e,st):=rfl
@[go_sem] theorem blockE_ret (i:Nat):blockE i (some (.ret,e,st))=some (.ret,e,st):=rfl
@[go_sem] theorem blockE_exit (i j:Nat):blockE i (some (.exit j,e,st))=if j=i then some (.norm,e,st)else some (.exit j,e,st):=rfl
@[go_sem] theorem blockE_none (i:Nat):blockE i none=none:=rfl
@[go_sem] theorem run_skip:run T .skip e st=some (.norm,e,st):=run_eq ..
@[go_sem] theorem run_exit (i:Nat):run T (.exit i) e st=some (.exit i,e,st):=run_eq ..
@[go_sem] theorem run_ret:run T .ret e st=some (.ret,e,st):=run_eq ..
@[go_sem] theorem run_keep (l:List Nat) (m:MCode):run T (.seq (.keep l) m) e st=run T m (keepE l e) st:=run_eq ..
@[go_sem] theorem run_scope (b:MCode):run T (.scope b) e st=run T b e st:=run_eq ..
@[go_sem] theorem run_block (i:Nat) (b:MCode):run T (.block i b) e st=blockE i (run T b e st):=by
  rw[run_eq]
  simp only[evStep]
  unfold blockE
  split
  ·rename_i h
   rw[h]
  ·rename_i h
   split
   ·rename_i h2
    exact absurd h2 (h _ _ _)
   ·rfl
@[go_sem] theorem run_reg (l:List MI):run T (.reg l) e st=opsE (runOps (call T) l e st):=by
  rw[run_eq]
  simp only[evStep,call]
  cases runOps (evCall T (run T)) l e st <;> rfl
@[go_sem] theorem run_regd (l:List RI):run T (.regd l) e st=opsE (runR (call T) [] st.nx l e ⟨st.h,st.nx+l.length⟩):=by
  rw[run_eq]
  simp only[evStep,call]
  cases runR (evCall T (run T)) [] st.nx l e ⟨st.h,st.nx+l.length⟩ <;> rfl
theorem run_seq' {a b:MCode} (h:∀l,a≠.keep l):run T (.seq a b) e st=seqR T b (run T a e st):=by
 rw[run_eq]
 have e1:evStep T (run T) (.seq a b) e st=(match run T a e st with | some (.norm,e,st)=>run T b e st | r=>r):=by
  cases a <;> first | rfl | exact absurd rfl (h _)
 rw[e1]
 unfold seqR
 split <;> rfl
section
variable (b c d : MCode)
@[go_sem] theorem run_seq_skip:run T (.seq .skip b) e st=seqR T b (run T .skip e st):=run_seq' (by simp)
@[go_sem] theorem run_seq_reg (l:List MI):run T (.seq (.reg l) b) e st=seqR T b (run T (.reg l) e st):=run_seq' (by simp)
@[go_sem] theorem run_seq_regd (l:List RI):run T (.seq (.regd l) b) e st=seqR T b (run T (.regd l) e st):=run_seq' (by simp)
@[go_sem] theorem run_seq_seq:run T (.seq (.seq c d) b) e st=seqR T b (run T (.seq c d) e st):=run_seq' (by simp)
@[go_sem] theorem run_seq_cond (x:AO):run T (.seq (.cond x c d) b) e st=seqR T b (run T (.cond x c d) e st):=run_seq' (by simp)
@[go_sem] theorem run_seq_block (i:Nat):run T (.seq (.block i c) b) e st=seqR T b (run T (.block i c) e st):=run_seq' (by simp)
@[go_sem] theorem run_seq_loop:run T (.seq (.loop c) b) e st=seqR T b (run T (.loop c) e st):=run_seq' (by simp)
@[go_sem] theorem run_seq_scope:run T (.seq (.scope c) b) e st=seqR T b (run T (.scope c) e st):=run_seq' (by simp)
@[go_sem] theorem run_seq_exit (i:Nat):run T (.seq (.exit i) b) e st=some (.exit i,e,st):=by rw[run_seq' (by simp),run_exit];rfl
@[go_sem] theorem run_seq_ret:run T (.seq .ret b) e st=some (.ret,e,st):=by rw[run_seq' (by simp),run_ret];rfl
@[go_sem] theorem run_seq_rm (pre:List MI) (m:AO) (d nx more pair:Nat) (post:List MI) (ks:List Nat) (out next:Nat):run T (.seq (.rangeMap pre m d nx more pair post ks out next c) b) e st=seqR T b (run T (.rangeMap pre m d nx more pair post ks out next c) e st):=run_seq' (by simp)
@[go_sem] theorem run_seq_rf (f:AO) (ps:List Nat):run T (.seq (.rangeFunc f ps c d) b) e st=seqR T b (run T (.rangeFunc f ps c d) e st):=run_seq' (by simp)
end
theorem run_loop (b:MCode):run T (.loop b) e st=seqR T (.loop b) (run T b e st):=by
 rw[run_eq]
 simp only[evStep]
 unfold seqR
 split
 ·rename_i h1
  rw[h1]
 ·rename_i h1
  split
  ·rename_i h2
   exact absurd h2 (h1 _ _)
  ·rfl
noncomputable def brR (T:Tab) (a b:MCode) (e:Env) (st:St):AV→Option (Ex×Env×St)
 | .bool v=>if v=true then run T a e st else run T b e st
 | _=>none
@[go_sem] theorem brR_bool (a b:MCode) (v:Bool):brR T a b e st (.bool v)=if v=true then run T a e st else run T b e st:=rfl
@[go_sem] theorem run_cond (x:AO) (a b:MCode):run T (.cond x a b) e st=brR T a b e st (x.ev e):=by
  rw[run_eq]
  simp only[evStep]
  cases x.ev e with
  | bool v=>cases v <;> rfl
  | _=>rfl
@[go_sem] theorem runOps_nil' (call:CallF):runOps call [] e st=some (e,st):=rfl
@[go_sem] theorem runOps_cons' (call:CallF) (i:MI) (l:List MI):runOps call (i::l) e st=opsR call l (i.run call e st):=by
  simp only[runOps]
  cases i.run call e st <;> rfl
def miR (d:Option Nat) (e:Env):Option (AV×St)→Option (Env×St)
 | some (v,st)=>some (eput e d v,st)
 | none=>none
@[go_sem] theorem miR_some (d:Option Nat) (v:AV):miR d e (some (v,st))=some (eput e d v,st):=rfl
@[go_sem] theorem miR_none (d:Option Nat):miR d e none=none:=rfl
@[go_sem] theorem MI_run_free (call:CallF) (d:Option Nat) (o:MO):MI.run call ⟨d,none,o⟩ e st=miR d e (o.run call (AO.ev e) st):=by
  simp only[MI.run,wanted]
  cases o.run call (AO.ev e) st <;> rfl
def guardR (call:CallF) (d:Option Nat) (b:Bool) (o:MO) (e:Env) (st:St):AV→Option (Env×St)
 | .bool c=>if c=b then miR d e (o.run call (AO.ev e) st)else some (eput e d unmade,st)
 | .tuple _=>some (eput e d unmade,st)
 | _=>none
@[go_sem] theorem guardR_bool (call:CallF) (d:Option Nat) (b c:Bool) (o:MO):guardR call d b o e st (.bool c)=if c=b then miR d e (o.run call (AO.ev e) st)else some (eput e d unmade,st):=rfl
@[go_sem] theorem guardR_tuple (call:CallF) (d:Option Nat) (b:Bool) (o:MO) (l:List AV):guardR call d b o e st (.tuple l)=some (eput e d unmade,st):=rfl
@[go_sem] theorem MI_run_guard (call:CallF) (d:Option Nat) (t:Nat) (b:Bool) (o:MO):MI.run call ⟨d,some (t,b),o⟩ e st=guardR call d b o e st (eget e t):=by
  simp only[MI.run,wanted]
  cases hv:eget e t with
  | bool c=>
    simp only[guardR]
    cases hcb:c == b with
    | true=>
      rw[if_pos (by simpa using hcb)]
      simp only
      cases o.run call (AO.ev e) st <;> rfl
    | false=>rw[if_neg (by simpa using hcb)]
  | _=>rfl
@[go_sem] theorem MO_p (call:CallF) (ev:AO→AV) (o:PO):MO.run call ev st (.p o)=(PO.run ev o).map fun v=>(v,st):=by
  simp only[MO.run];cases PO.run ev o <;> rfl
@[go_sem] theorem MO_r (call:CallF) (ev:AO→AV) (o:RO):MO.run call ev st (.r o)=(RO.run ev st.h o).map fun v=>(v,st):=by
  simp only[MO.run];cases RO.run ev st.h o <;> rfl
@[go_sem] theorem MO_n (call:CallF) (ev:AO→AV) (o:NO):MO.run call ev st (.n o)=(NO.run ev st.nx o).map fun p=>(p.1,⟨(st.nx,p.2)::st.h,st.nx+1⟩):=by
  simp only[MO.run];cases NO.run ev st.nx o <;> rfl
@[go_sem] theorem MO_call (call:CallF) (ev:AO→AV) (f:AO) (xs:List AO):MO.run call ev st (.w (.call f xs))=call (ev f) (xs.map ev) st:=rfl
@[go_sem] theorem MO_store (call:CallF) (ev:AO→AV) (z:Nat) (a x:AO):MO.run call ev st (.w (.store z a x))=WO.run call ev st (.store z a x):=rfl
@[go_sem] theorem MO_append (call:CallF) (ev:AO→AV) (a b c:Nat) (z:List AV) (s x:AO):MO.run call ev st (.w (.append a b c z s x))=aappend a b c st (ev s) (ev x):=rfl
@[go_sem] theorem MO_copy (call:CallF) (ev:AO→AV) (z:Nat) (a x:AO):MO.run call ev st (.w (.copy z a x))=WO.run call ev st (.copy z a x):=rfl
@[go_sem] theorem MO_mput (call:CallF) (ev:AO→AV) (k:Kd) (a b c:AO):MO.run call ev st (.w (.mput k a b c))=WO.run call ev st (.mput k a b c):=rfl
@[go_sem] theorem ev_t (n:Nat):AO.ev e (.t n)=eget e n:=rfl
@[go_sem] theorem ev_k (v:AV):AO.ev e (.k v)=v:=rfl
@[go_sem] theorem eput_some (d:Nat) (v:AV):eput e (some d) v=(d,v)::e:=rfl
@[go_sem] theorem eput_none (v:AV):eput e none v=e:=rfl
@[go_sem] theorem eget_nil (t:Nat):eget [] t= .bot:=rfl
@[go_sem] theorem eget_cons (m t:Nat) (v:AV):eget ((m,v)::e) t=if m=t then v else eget e t:=rfl
@[go_sem] theorem keepE_nil:keepE [] e=[]:=rfl
@[go_sem] theorem keepE_cons (t:Nat) (l:List Nat):keepE (t::l) e=(t,eget e t)::keepE l e:=rfl
def iand (k:IntKind) (a b:Int):Int:=k.wrap (BitVec.ofInt k.bits a &&& BitVec.ofInt k.bits b).toNat
def ior (k:IntKind) (a b:Int):Int:=k.wrap (BitVec.ofInt k.bits a ||| BitVec.ofInt k.bits b).toNat
def ixor (k:IntKind) (a b:Int):Int:=k.wrap (BitVec.ofInt k.bits a ^^^ BitVec.ofInt k.bits b).toNat
def iandn (k:IntKind) (a b:Int):Int:=k.wrap (BitVec.ofInt k.bits a &&& ~~~ BitVec.ofInt k.bits b).toNat
def ishl (k:IntKind) (a b:Int):Int:=k.wrap (a*(2 ^ (min b.toNat k.bits):Nat))
def ishr (k:IntKind) (a b:Int):Int:=a.fdiv (2 ^ (min b.toNat k.bits):Nat)
def ixor1 (k:IntKind) (n:Int):Int:=k.wrap (BitVec.ofInt k.bits (if k.signed then -1 else k.max) ^^^ BitVec.ofInt k.bits n).toNat
section
variable (k k' : IntKind) (a b : Int)
@[go_sem] theorem abin_add:abin .add (.int k a) (.int k' b)=if k=k' then some (.int k (k.wrap (a+b)))else none:=by simp only[abin,ibin,intF_eq,wrp_eq]
@[go_sem] theorem abin_sub:abin .sub (.int k a) (.int k' b)=if k=k' then some (.int k (k.wrap (a - b)))else none:=by simp only[abin,ibin,intF_eq,wrp_eq]
@[go_sem] theorem abin_mul:abin .mul (.int k a) (.int k' b)=if k=k' then some (.int k (k.wrap (a*b)))else none:=by simp only[abin,ibin,intF_eq,wrp_eq]
@[go_sem] theorem abin_quo:abin .quo (.int k a) (.int k' b)=if k=k' then(if b=0 then none else some (.int k (k.wrap (a.tdiv b))))else none:=by simp only[abin,ibin,intF_eq,wrp_eq]
@[go_sem] theorem abin_rem:abin .rem (.int k a) (.int k' b)=if k=k' then(if b=0 then none else some (.int k (a.tmod b)))else none:=by simp only[abin,ibin,intF_eq]
@[go_sem] theorem abin_and:abin .and (.int k a) (.int k' b)=if k=k' then some (.int k (iand k a b))else none:=by simp only[abin,ibin,intF_eq,wrp_eq,iand]
@[go_sem] theorem abin_or:abin .or (.int k a) (.int k' b)=if k=k' then some (.int k (ior k a b))else none:=by simp only[abin,ibin,intF_eq,wrp_eq,ior]
@[go_sem] theorem abin_xor:abin .xor (.int k a) (.int k' b)=if k=k' then some (.int k (ixor k a b))else none:=by simp only[abin,ibin,intF_eq,wrp_eq,ixor]
@[go_sem] theorem abin_andNot:abin .andNot (.int k a) (.int k' b)=if k=k' then some (.int k (iandn k a b))else none:=by simp only[abin,ibin,intF_eq,wrp_eq,iandn]
@[go_sem] theorem abin_shl:abin .shl (.int k a) (.int k' b)=if b<0 then none else some (.int k (ishl k a b)):=by simp only[abin,intF_eq,wrp_eq,ishl]
@[go_sem] theorem abin_shr:abin .shr (.int k a) (.int k' b)=if b<0 then none else some (.int k (ishr k a b)):=by simp only[abin,intF_eq,ishr]
@[go_sem] theorem abin_eql:abin .eql (.int k a) (.int k' b)=if k=k' then some (.bool (decide (a=b)))else none:=by simp only[abin,ibin]
@[go_sem] theorem abin_neq:abin .neq (.int k a) (.int k' b)=if k=k' then some (.bool (!decide (a=b)))else none:=by simp only[abin,ibin]
@[go_sem] theorem abin_lss:abin .lss (.int k a) (.int k' b)=if k=k' then some (.bool (decide (a<b)))else none:=by simp only[abin,ibin]
@[go_sem] theorem abin_leq:abin .leq (.int k a) (.int k' b)=if k=k' then some (.bool (decide (a≤b)))else none:=by simp only[abin,ibin]
@[go_sem] theorem abin_gtr:abin .gtr (.int k a) (.int k' b)=if k=k' then some (.bool (decide (b<a)))else none:=by simp only[abin,ibin]
@[go_sem] theorem abin_geq:abin .geq (.int k a) (.int k' b)=if k=k' then some (.bool (decide (b≤a)))else none:=by simp only[abin,ibin]
@[go_sem] theorem abin_str (op:BinOp) (x y:List UInt8):abin op (.str x) (.str y)=sbin op x y:=by simp only[abin]
@[go_sem] theorem aun_neg:aun .neg (.int k a)=some (.int k (k.wrap (0 - a))):=by simp only[aun,intF_eq,wrp_eq]
@[go_sem] theorem aun_xor:aun .xor (.int k a)=some (.int k (ixor1 k a)):=by simp only[aun,intF_eq,wrp_eq,ixor1]
@[go_sem] theorem aun_not (x:Bool):aun .not (.bool x)=some (.bool !x):=rfl
end
attribute [go_sem] PO.run intF_eq wrp_eq sbin Option.map_some Option.map_none
end Go.Ev

/- Calls on symbolic data: states that are well made, and what a call leaves alone. -/
namespace Go.Ev
open Go
variable {T : Tab} {e : Env} {st st' st'' : St}
structure St.Wf (st:St):Prop where
 lt:∀n o,hget st.h n=some o→n<st.nx
 nd:(st.h.map (·.1)).Nodup
structure Ext (st st':St):Prop where
 nx:st.nx≤st'.nx
 wf:st'.Wf
 keep:∀n,n<st.nx→hget st'.h n=hget st.h n
theorem Ext.refl (h:st.Wf):Ext st st:=⟨Nat.le_refl _,h,fun _ _=>rfl⟩
theorem Ext.trans (a:Ext st st') (b:Ext st' st''):Ext st st'':=
 ⟨Nat.le_trans a.nx b.nx,b.wf,fun n hn=>by rw[b.keep n (Nat.lt_of_lt_of_le hn a.nx),a.keep n hn]⟩
theorem Ext.get (a:Ext st st') (hw:st.Wf) {n:Nat} {o:AObj} (h:hget st.h n=some o):hget st'.h n=some o:=by
 rw[a.keep n (hw.lt n o h),h]
structure Frm (S:List Nat) (st st':St):Prop where
 nx:st.nx≤st'.nx
 wf:st'.Wf
 keep:∀n,n<st.nx→n∉S→hget st'.h n=hget st.h n
theorem Ext.fr (a:Ext st st') (S:List Nat):Frm S st st':=⟨a.nx,a.wf,fun n hn _=>a.keep n hn⟩
theorem Frm.trans {S R:List Nat} (a:Frm S st st') (b:Frm R st' st'') (h:∀n∈R,n∈S∨st.nx≤n):Frm S st st'':=
 ⟨Nat.le_trans a.nx b.nx,b.wf,fun n hn hs=>by
   rw[b.keep n (Nat.lt_of_lt_of_le hn a.nx) (fun hr=>by
    rcases h n hr with h | h
    ·exact hs h
    ·omega),a.keep n hn hs]⟩
theorem Frm.mono {S R:List Nat} (a:Frm S st st') (h:∀n∈S,n∈R):Frm R st st':=⟨a.nx,a.wf,fun n hn hr=>a.keep n hn (fun hs=>hr (h n hs))⟩
theorem Frm.get {S:List Nat} (a:Frm S st st') (hw:st.Wf) {n:Nat} {o:AObj} (h:hget st.h n=some o) (hn:n∉S):hget st'.h n=some o:=by
 rw[a.keep n (hw.lt n o h) hn,h]
theorem Frm.ext {S:List Nat} (a:Frm S st st') (h:∀n∈S,st.nx≤n):Ext st st':=
 ⟨a.nx,a.wf,fun n hn=>a.keep n hn (fun hs=>by have:=h n hs;omega)⟩
theorem hget_cons (m n:Nat) (o:AObj) (h:Heap):hget ((m,o)::h) n=if m=n then some o else hget h n:=rfl
theorem hset_cons (m n:Nat) (o p:AObj) (h:Heap):hset ((m,p)::h) n o=if m=n then(n,o)::h else(m,p)::hset h n o:=rfl
theorem hget_mem:∀{h:Heap} {n:Nat} {o:AObj},hget h n=some o→(n,o)∈h
 | (m,p)::h,n,o,hg=>by
   simp only[hget]at hg
   split at hg
   ·rename_i e;subst e;injection hg with e;subst e;exact List.mem_cons_self
   ·exact List.mem_cons_of_mem _ (hget_mem hg)
theorem mem_hget:∀{h:Heap} {n:Nat} {o:AObj},(h.map (·.1)).Nodup→(n,o)∈h→hget h n=some o
 | (m,p)::h,n,o,hd,hm=>by
   simp only[List.map_cons,List.nodup_cons]at hd
   simp only[hget]
   rcases List.mem_cons.1 hm with e | hm
   ·injection e with e1 e2;subst e1;subst e2;rw[if_pos rfl]
   ·rw[if_neg,mem_hget hd.2 hm]
    rintro rfl
    exact hd.1 (List.mem_map.2 ⟨_,hm,rfl⟩)
theorem hset_names:∀{h:Heap} {n:Nat} {o:AObj},(hset h n o).map (·.1)=h.map (·.1)
 | [],_,_=>rfl
 | (m,p)::h,n,o=>by
   simp only[hset]
   split
   ·rename_i e;subst e;rfl
   ·simp[hset_names]
theorem hdel_sub:∀{h:Heap} {n:Nat},((hdel h n).map (·.1)).Sublist (h.map (·.1))
 | [],_=>List.Sublist.slnil
 | (m,p)::h,n=>by
   simp only[hdel]
   split
   ·exact hdel_sub.cons _
   ·exact hdel_sub.cons_cons _
theorem hdrop_sub:∀{l:List Nat} {h:Heap},((hdrop l h).map (·.1)).Sublist (h.map (·.1))
 | _,[]=>List.Sublist.slnil
 | l,(m,p)::h=>by
   simp only[hdrop]
   split
   ·exact hdrop_sub.cons _
   ·exact hdrop_sub.cons_cons _
theorem locNames_nil:∀{h:Heap} {c:Nat},(∀n o,hget h n=some o→n<c)→locNames c h=[]
 | [],_,_=>rfl
 | (m,o)::h,c,hh=>by
   have hm:m<c:=hh m o (by simp[hget])
   have ht:∀n p,hget h n=some p→n<c:=fun n p hp=>by
    by_cases e:m=n
    ·subst e;exact hm
    ·exact hh n p (by simp only[hget];rw[if_neg e];exact hp)
   simp only[locNames]
   split
   ·rw[if_pos hm,locNames_nil ht]
   ·exact locNames_nil ht
theorem hdrop_id:∀{h:Heap} {l:List Nat},(∀n∈l,hget h n=none)→hdrop l h=h
 | [],_,_=>rfl
 | (m,o)::h,l,hh=>by
   have hm:hmem m l=false:=by
    cases hq:hmem m l with
    | false=>rfl
    | true=>
      have:=hh m (hmem_iff.1 hq)
      simp[hget]at this
   simp only[hdrop,hm,Bool.false_eq_true,if_false]
   rw[hdrop_id (fun n hn=>by
    have:=hh n hn
    simp only[hget]at this
    split at this
    ·cases this
    ·exact this)]
theorem hdrop_nil (h:Heap):hdrop [] h=h:=hdrop_id (fun n hn=>by cases hn)
theorem dropLoc_eq (c:Nat) (h:Heap):dropLoc c h=hdrop (locNames c h) h:=by
 unfold dropLoc
 split
 ·rename_i he;rw[he,hdrop_nil]
 ·rfl
theorem hget_hdrop_iff:∀{h:Heap} {l:List Nat} {n:Nat},hget (hdrop l h) n=if n∈l then none else hget h n
 | [],l,n=>by simp[hdrop,hget]
 | (m,o)::h,l,n=>by
   simp only[hdrop]
   split
   ·rename_i hm
    rw[hget_hdrop_iff]
    simp only[hget]
    split
    ·rfl
    ·rename_i hn
     rw[if_neg]
     rintro rfl
     exact hn (hmem_iff.1 hm)
   ·rename_i hm
    simp only[hget]
    rw[hget_hdrop_iff]
    by_cases e:m=n
    ·subst e
     rw[if_pos rfl,if_pos rfl,if_neg (fun h=>hm (hmem_iff.2 h))]
    ·rw[if_neg e,if_neg e]
theorem mem_locNames:∀{h:Heap} {c n:Nat},n∈locNames c h→c≤n
 | [],_,_,hn=>by cases hn
 | (m,o)::h,c,n,hn=>by
   simp only[locNames]at hn
   split at hn
   ·split at hn
    ·exact mem_locNames hn
    ·rcases List.mem_cons.1 hn with rfl | hn
     ·omega
     ·exact mem_locNames hn
   ·exact mem_locNames hn
theorem mem_locNames_loc:∀{h:Heap} {c n:Nat},n∈locNames c h→∃ty cs,(n,AObj.cells ty true cs)∈h
 | [],_,_,hn=>by cases hn
 | (m,o)::h,c,n,hn=>by
   simp only[locNames]at hn
   split at hn
   ·split at hn
    ·obtain⟨ty,cs,h⟩:=mem_locNames_loc hn;exact⟨ty,cs,List.mem_cons_of_mem _ h⟩
    ·rcases List.mem_cons.1 hn with rfl | hn
     ·exact⟨_,_,List.mem_cons_self⟩
     ·obtain⟨ty,cs,h⟩:=mem_locNames_loc hn;exact⟨ty,cs,List.mem_cons_of_mem _ h⟩
   ·obtain⟨ty,cs,h⟩:=mem_locNames_loc hn;exact⟨ty,cs,List.mem_cons_of_mem _ h⟩
theorem hget_dropLoc_lt {h:Heap} {c n:Nat} (hn:n<c):hget (dropLoc c h) n=hget h n:=by
 rw[dropLoc_eq,hget_hdrop_iff,if_neg]
 intro hm
 have:=mem_locNames hm
 omega
theorem hget_dropLoc_some {h:Heap} {c n:Nat} {o:AObj} (hg:hget (dropLoc c h) n=some o):hget h n=some o:=by
 rw[dropLoc_eq,hget_hdrop_iff]at hg
 split at hg
 ·cases hg
 ·exact hg
theorem dropLoc_sub {h:Heap} {c:Nat}:((dropLoc c h).map (·.1)).Sublist (h.map (·.1)):=by
 rw[dropLoc_eq];exact hdrop_sub
theorem St.Wf.dropLoc (a:st'.Wf) (c:Nat):St.Wf ⟨dropLoc c st'.h,st'.nx⟩:=⟨fun n o ho=>a.lt n o (hget_dropLoc_some ho),a.nd.sublist dropLoc_sub⟩
def AObj.lc:AObj→Bool
 | .cells _ true _=>true
 | _=>false
theorem hget_dropLoc_keep {c n:Nat} {o:AObj} (hw:st.Wf) (hg:hget st.h n=some o) (hl:o.lc=false):hget (dropLoc c st.h) n=some o:=by
 rw[dropLoc_eq,hget_hdrop_iff,if_neg,hg]
 intro hm
 obtain⟨ty,cs,hmem⟩:=mem_locNames_loc hm
 rw[mem_hget hw.nd hmem]at hg
 injection hg with e
 subst e
 cases hl
theorem Ext.dropLoc (a:Ext st st'):Ext st ⟨dropLoc st.nx st'.h,st'.nx⟩:=
 ⟨a.nx,a.wf.dropLoc _,fun n hn=>by rw[hget_dropLoc_lt hn,a.keep n hn]⟩
theorem Ext.aside (h:st.Wf) (k:Nat):Ext st ⟨st.h,st.nx+k⟩:=⟨Nat.le_add_right _ _,⟨fun n o ho=>Nat.lt_of_lt_of_le (h.lt n o ho) (Nat.le_add_right _ _),h.nd⟩,fun _ _=>rfl⟩
theorem Frm.dropLoc {S:List Nat} (a:Frm S st st'):Frm S st ⟨Go.Ev.dropLoc st.nx st'.h,st'.nx⟩:=
 ⟨a.nx,a.wf.dropLoc _,fun n hn hs=>by rw[hget_dropLoc_lt hn,a.keep n hn hs]⟩
theorem Frm.set (h:st.Wf) {n:Nat} {o p:AObj} (hg:hget st.h n=some p):Frm [n] st ⟨hset st.h n o,st.nx⟩:=
 ⟨Nat.le_refl _,⟨fun m q hq=>by
   rw[hget_hset hg]at hq
   split at hq
   ·rename_i e;subst e;exact h.lt _ _ hg
   ·exact h.lt _ _ hq,by show ((hset st.h n o).map _).Nodup;rw[hset_names];exact h.nd⟩,fun m hm hs=>by
   rw[hget_hset hg,if_neg]
   rintro rfl
   exact hs List.mem_cons_self⟩
theorem Ext.new (h:st.Wf) (o:AObj):Ext st ⟨(st.nx,o)::st.h,st.nx+1⟩:=by
 refine⟨Nat.le_succ _,⟨fun n p hp=> ?_,?_⟩,fun n hn=> ?_⟩
 ·simp only[hget]at hp
  split at hp
  ·rename_i e;subst e;exact Nat.lt_succ_self _
  ·exact Nat.lt_succ_of_lt (h.lt n p hp)
 ·simp only[List.map_cons,List.nodup_cons]
  refine⟨fun hm=> ?_,h.nd⟩
  obtain⟨⟨m,p⟩,hm,e⟩:=List.mem_map.1 hm
  simp only at e
  subst e
  have:=h.lt _ _ (mem_hget h.nd hm)
  omega
 ·simp only[hget]
  rw[if_neg (by omega)]
def callR (mf:MFun) (st:St):Option (Ex×Env×St)→Option (AV×St)
 | some (.norm,e,s) | some (.ret,e,s)=>(fresults s.h e mf.results).map fun v=>(v,⟨dropLoc st.nx s.h,s.nx⟩)
 | _=>none
theorem call_fn {k:Nat} {mf:MFun} (hen:T.en k=none) (hf:T.fn k=some mf) {first args cap:List AV} (hl:(first++args++cap).length=mf.nargs):
  call T (.fn k first cap) args st=callR mf st (run T mf.body (argEnv 0 (first++args++cap)) st):=by
 simp only[call,evCall,evCallF,hen,hf]
 rw[if_pos hl]
 unfold callR
 split <;> rename_i h1 <;> simp only[h1]
 ·cases fresults _ _ mf.results <;> rfl
 ·cases fresults _ _ mf.results <;> rfl
def Res (r:Option (Ex×Env×St)) (Q:Ex→Env→St→Prop):Prop:=match r with | some (x,e,s)=>Q x e s | none=>False
@[go_sem] theorem Res_some (x:Ex) (s:St) (Q:Ex→Env→St→Prop):Res (some (x,e,s)) Q=Q x e s:=rfl
theorem Res.elim {r:Option (Ex×Env×St)} {Q:Ex→Env→St→Prop} (h:Res r Q):∃x e s,r=some (x,e,s)∧Q x e s:=by
 unfold Res at h
 split at h
 ·exact⟨_,_,_,rfl,h⟩
 ·exact h.elim
theorem Res.mono {r:Option (Ex×Env×St)} {Q R:Ex→Env→St→Prop} (h:Res r Q) (hq:∀x e s,Q x e s→R x e s):Res r R:=by
 obtain⟨x,e,s,rfl,h⟩:=h.elim
 exact hq _ _ _ h
def ORes (r:Option (Env×St)) (Q:Env→St→Prop):Prop:=match r with | some (e,s)=>Q e s | none=>False
def CRes (r:Option (AV×St)) (Q:AV→St→Prop):Prop:=match r with | some (v,s)=>Q v s | none=>False
@[go_sem] theorem ORes_some (s:St) (Q:Env→St→Prop):ORes (some (e,s)) Q=Q e s:=rfl
@[go_sem] theorem CRes_some (v:AV) (s:St) (Q:AV→St→Prop):CRes (some (v,s)) Q=Q v s:=rfl
def kSeq (T:Tab) (b:MCode) (Q:Ex→Env→St→Prop) (x:Ex) (e:Env) (s:St):Prop:=Res (seqR T b (some (x,e,s))) Q
@[go_sem] theorem kSeq_norm (b:MCode) (Q:Ex→Env→St→Prop) (s:St):kSeq T b Q .norm e s=Res (run T b e s) Q:=rfl
@[go_sem] theorem kSeq_exit (b:MCode) (Q:Ex→Env→St→Prop) (i:Nat) (s:St):kSeq T b Q (.exit i) e s=Q (.exit i) e s:=rfl
@[go_sem] theorem kSeq_ret (b:MCode) (Q:Ex→Env→St→Prop) (s:St):kSeq T b Q .ret e s=Q .ret e s:=rfl
@[go_sem] theorem Res_seqR (b:MCode) (r:Option (Ex×Env×St)) (Q:Ex→Env→St→Prop):Res (seqR T b r) Q=Res r (kSeq T b Q):=by
  cases r with
  | none=>rfl
  | some p=>obtain⟨x,e,s⟩:=p;rfl
def kBlk (i:Nat) (Q:Ex→Env→St→Prop) (x:Ex) (e:Env) (s:St):Prop:=Res (blockE i (some (x,e,s))) Q
@[go_sem] theorem kBlk_norm (i:Nat) (Q:Ex→Env→St→Prop) (s:St):kBlk i Q .norm e s=Q .norm e s:=rfl
@[go_sem] theorem kBlk_ret (i:Nat) (Q:Ex→Env→St→Prop) (s:St):kBlk i Q .ret e s=Q .ret e s:=rfl
@[go_sem] theorem kBlk_exit (i j:Nat) (Q:Ex→Env→St→Prop) (s:St):kBlk i Q (.exit j) e s=if j=i then Q .norm e s else Q (.exit j) e s:=by
  unfold kBlk
  rw[blockE_exit]
  split <;> rfl
@[go_sem] theorem Res_blockE (i:Nat) (r:Option (Ex×Env×St)) (Q:Ex→Env→St→Prop):Res (blockE i r) Q=Res r (kBlk i Q):=by
  cases r with
  | none=>rfl
  | some p=>obtain⟨x,e,s⟩:=p;rfl
def kE (Q:Ex→Env→St→Prop) (e:Env) (s:St):Prop:=Q .norm e s
@[go_sem] theorem kE_eq (Q:Ex→Env→St→Prop) (s:St):kE Q e s=Q .norm e s:=rfl
@[go_sem] theorem Res_opsE (r:Option (Env×St)) (Q:Ex→Env→St→Prop):Res (opsE r) Q=ORes r (kE Q):=by
  cases r <;> rfl
def kOps (call:CallF) (l:List MI) (K:Env→St→Prop) (e:Env) (s:St):Prop:=ORes (runOps call l e s) K
@[go_sem] theorem kOps_eq (call:CallF) (l:List MI) (K:Env→St→Prop) (s:St):kOps call l K e s=ORes (runOps call l e s) K:=rfl
@[go_sem] theorem ORes_opsR (call:CallF) (l:List MI) (r:Option (Env×St)) (K:Env→St→Prop):ORes (opsR call l r) K=ORes r (kOps call l K):=by
  cases r <;> rfl
def kPut (d:Option Nat) (e:Env) (K:Env→St→Prop) (v:AV) (s:St):Prop:=K (eput e d v) s
@[go_sem] theorem kPut_eq (d:Option Nat) (K:Env→St→Prop) (v:AV) (s:St):kPut d e K v s=K (eput e d v) s:=rfl
@[go_sem] theorem ORes_miR (d:Option Nat) (r:Option (AV×St)) (K:Env→St→Prop):ORes (miR d e r) K=CRes r (kPut d e K):=by
  cases r <;> rfl
def IRes (r:Option (Env×St×Nat)) (Q:Env→St→Nat→Prop):Prop:=match r with | some (e,s,n)=>Q e s n | none=>False
@[go_sem] theorem IRes_some (s:St) (n:Nat) (Q:Env→St→Nat→Prop):IRes (some (e,s,n)) Q=Q e s n:=rfl
def kR (call:CallF) (d:List (Nat×MI)) (l:List RI) (K:Env→St→Prop) (e:Env) (s:St) (nm:Nat):Prop:=ORes (runR call d nm l e s) K
@[go_sem] theorem kR_eq (call:CallF) (d:List (Nat×MI)) (l:List RI) (K:Env→St→Prop) (s:St) (nm:Nat):kR call d l K e s nm=ORes (runR call d nm l e s) K:=rfl
@[go_sem] theorem runR_end (call:CallF) (d:List (Nat×MI)) (nm:Nat) (s:St):runR call d nm [] e s=some (e,s):=rfl
@[go_sem] theorem runR_op (call:CallF) (d:List (Nat×MI)) (nm i:Nat) (o:MI) (l:List RI) (s:St) (K:Env→St→Prop):
   ORes (runR call d nm (.op i o::l) e s) K=IRes (runI call nm o e s) (kR call ((i,o)::d) l K):=by
  simp only[runR]
  cases runI call nm o e s with
  | none=>rfl
  | some p=>obtain⟨e,s,n⟩:=p;rfl
@[go_sem] theorem runR_re (call:CallF) (d:List (Nat×MI)) (nm i:Nat) (l:List RI) (s:St) (K:Env→St→Prop):
   ORes (runR call d nm (.re i::l) e s) K=(reI d i e s=true∧ORes (runR call d nm l e s) K):=by
  simp only[runR]
  by_cases h:reI d i e s=true
  ·simp[h]
  ·simp[h,ORes]
@[go_sem] theorem dfind_cons (j i:Nat) (o:MI) (r:List (Nat×MI)):dfind ((j,o)::r) i=if j=i then some o else dfind r i:=rfl
def iR (nm:Nat) (d:Option Nat) (e:Env):Option (AV×St)→Option (Env×St×Nat)
 | some (v,s)=>some (eput e d v,s,nm)
 | none=>none
def kPutI (nm:Nat) (d:Option Nat) (e:Env) (Q:Env→St→Nat→Prop) (v:AV) (s:St):Prop:=Q (eput e d v) s nm
@[go_sem] theorem kPutI_eq (nm:Nat) (d:Option Nat) (Q:Env→St→Nat→Prop) (v:AV) (s:St):kPutI nm d e Q v s=Q (eput e d v) s nm:=rfl
@[go_sem] theorem IRes_iR (nm:Nat) (d:Option Nat) (r:Option (AV×St)) (Q:Env→St→Nat→Prop):IRes (iR nm d e r) Q=CRes r (kPutI nm d e Q):=by
  cases r <;> rfl
@[go_sem] theorem runI_p (call:CallF) (nm:Nat) (d:Option Nat) (p:PO) (s:St):runI call nm ⟨d,none,.p p⟩ e s=iR nm d e (MO.run call (AO.ev e) s (.p p)):=by
  simp only[runI,wanted];cases MO.run call (AO.ev e) s (.p p) <;> rfl
@[go_sem] theorem runI_r (call:CallF) (nm:Nat) (d:Option Nat) (p:RO) (s:St):runI call nm ⟨d,none,.r p⟩ e s=iR nm d e (MO.run call (AO.ev e) s (.r p)):=by
  simp only[runI,wanted];cases MO.run call (AO.ev e) s (.r p) <;> rfl
@[go_sem] theorem runI_w (call:CallF) (nm:Nat) (d:Option Nat) (p:WO) (s:St):runI call nm ⟨d,none,.w p⟩ e s=iR nm d e (MO.run call (AO.ev e) s (.w p)):=by
  simp only[runI,wanted];cases MO.run call (AO.ev e) s (.w p) <;> rfl
@[go_sem] theorem runI_n (call:CallF) (nm:Nat) (d:Option Nat) (p:NO) (s:St):runI call nm ⟨d,none,.n p⟩ e s=(NO.run (AO.ev e) nm p).map fun q=>(eput e d q.1,⟨(nm,q.2)::s.h,s.nx⟩,nm+1):=by
  simp only[runI,wanted];cases NO.run (AO.ev e) nm p <;> rfl
def igR (call:CallF) (nm:Nat) (d:Option Nat) (b:Bool) (o:MO) (e:Env) (s:St):AV→Option (Env×St×Nat)
 | .bool c=>if c=b then runI call nm ⟨d,none,o⟩ e s else some (eput e d unmade,s,nm)
 | .tuple _=>some (eput e d unmade,s,nm)
 | _=>none
@[go_sem] theorem igR_bool (call:CallF) (nm:Nat) (d:Option Nat) (b c:Bool) (o:MO) (s:St):igR call nm d b o e s (.bool c)=if c=b then runI call nm ⟨d,none,o⟩ e s else some (eput e d unmade,s,nm):=rfl
@[go_sem] theorem igR_tuple (call:CallF) (nm:Nat) (d:Option Nat) (b:Bool) (o:MO) (l:List AV) (s:St):igR call nm d b o e s (.tuple l)=some (eput e d unmade,s,nm):=rfl
@[go_sem] theorem runI_guard (call:CallF) (nm:Nat) (d:Option Nat) (t:Nat) (b:Bool) (o:MO) (s:St):runI call nm ⟨d,some (t,b),o⟩ e s=igR call nm d b o e s (eget e t):=by
  simp only[runI,wanted]
  cases hv:eget e t with
  | bool c=>
    simp only[igR]
    cases hcb:c == b with
    | true=>
      rw[if_pos (by simpa using hcb)]
      simp only[runI,wanted]
    | false=>rw[if_neg (by simpa using hcb)]
  | _=>rfl
mutual
theorem avEq_refl:∀a:AV,avEq a a=true
 | .bot | .nilptr | .nilslice | .nilmap | .nilfn | .niliface=>rfl
 | .bool b=>by simp[avEq]
 | .int k n=>by simp[avEq]
 | .str s=>by simp only[avEq];exact seq8_iff.2 rfl
 | .ptr n o=>by simp[avEq]
 | .slice n o l c=>by simp[avEq]
 | .map n=>by simp[avEq]
 | .fn f a b=>by simp[avEq,avEqs_refl a,avEqs_refl b]
 | .yield l=>by simp[avEq]
 | .iface t v=>by simp[avEq,avEq_refl v]
 | .agg a=>by simp[avEq,avEqs_refl a]
 | .tuple a=>by simp[avEq,avEqs_refl a]
theorem avEqs_refl:∀a:List AV,avEqs a a=true
 | []=>rfl
 | x::a=>by simp[avEqs,avEq_refl x,avEqs_refl a]
end
attribute [go_sem] avEq_refl
theorem wr_cells {h:Heap} {n o ty:Nat} {loc:Bool} {cs:List AV} {v:AV} (hg:hget h n=some (.cells ty loc cs)) (hv:v.sc=true) (ho:o<cs.length):wrCells h n o [v]=some (hset h n (.cells ty loc (cs.set o v))):=by
 simp only[wrCells,hg,List.length_singleton,List.all_cons,List.all_nil,hv,Bool.and_self,and_true,splice]
 rw[if_pos (by omega)]
theorem wr_buf {h:Heap} {n o ty es:Nat} {cs:List AV} {v:AV} (hg:hget h n=some (.buf ty es cs)) (hv:v.sc=true) (ho:o<cs.length):wrCells h n o [v]=some (hset h n (.buf ty es (cs.set o v))):=by
 simp only[wrCells,hg,List.length_singleton,List.all_cons,List.all_nil,hv,Bool.and_self,and_true,splice]
 rw[if_pos (by omega)]
@[go_sem] theorem acells_int (k:IntKind) (n:Int):acells (.int k n)=[.int k n]:=rfl
@[go_sem] theorem acells_bool (b:Bool):acells (.bool b)=[.bool b]:=rfl
@[go_sem] theorem acells_slice (n o l:Nat) (c:Cap):acells (.slice n o l c)=[.slice n o l c]:=rfl
@[go_sem] theorem acells_nil:acells .nilslice=[.nilslice]:=rfl
@[go_sem] theorem acells_str (s:List UInt8):acells (.str s)=[.str s]:=rfl
@[go_sem] theorem acells_ptr (n o:Nat):acells (.ptr n o)=[.ptr n o]:=rfl
@[go_sem] theorem acells_agg (cs:List AV):acells (.agg cs)=cs:=rfl
@[go_sem] theorem sc_int (k:IntKind) (n:Int):(AV.int k n).sc=true:=rfl
@[go_sem] theorem sc_bool (b:Bool):(AV.bool b).sc=true:=rfl
@[go_sem] theorem sc_slice (n o l:Nat) (c:Cap):(AV.slice n o l c).sc=true:=rfl
@[go_sem] theorem sc_nil:AV.nilslice.sc=true:=rfl
@[go_sem] theorem sc_str (s:List UInt8):(AV.str s).sc=true:=rfl
@[go_sem] theorem sc_ptr (n o:Nat):(AV.ptr n o).sc=true:=rfl
theorem CRes.elim {r:Option (AV×St)} {Q:AV→St→Prop} (h:CRes r Q):∃v s,r=some (v,s)∧Q v s:=by
 unfold CRes at h
 split at h
 ·exact⟨_,_,rfl,h⟩
 ·exact h.elim
theorem CRes.mono {r:Option (AV×St)} {Q R:AV→St→Prop} (h:CRes r Q) (hq:∀v s,Q v s→R v s):CRes r R:=by
 obtain⟨v,s,rfl,h⟩:=h.elim
 exact hq _ _ h
def Tells (T:Tab) (st:St) (f:AV) (args:List AV) (v:AV):Prop:=CRes (call T f args st) fun v' s=>v'=v∧Ext st s
theorem Tells.use {f:AV} {args:List AV} {v:AV} {Q:AV→St→Prop} (h:Tells T st f args v) (hq:∀s,Ext st s→Q v s):CRes (call T f args st) Q:=
 CRes.mono h (by rintro v' s ⟨rfl,hx⟩;exact hq s hx)
theorem call_res {k:Nat} {mf:MFun} (hen:T.en k=none) (hf:T.fn k=some mf) {first args cap:List AV} (hl:(first++args++cap).length=mf.nargs) {Q:AV→St→Prop}
  (hr:Res (run T mf.body (argEnv 0 (first++args++cap)) st) fun x e s=>(x= .norm∨x= .ret)∧∃v,fresults s.h e mf.results=some v∧Q v ⟨dropLoc st.nx s.h,s.nx⟩):
  CRes (call T (.fn k first cap) args st) Q:=by
 obtain⟨x,e,s,h1,h2,v,h3,h4⟩:=hr.elim
 rw[call_fn hen hf hl,h1]
 rcases h2 with rfl | rfl <;> simp only[callR,h3,Option.map_some,CRes_some] <;> exact h4
theorem tells_of {k:Nat} {mf:MFun} (hen:T.en k=none) (hf:T.fn k=some mf) {first args cap:List AV} (hl:(first++args++cap).length=mf.nargs) {v:AV}
  (hr:Res (run T mf.body (argEnv 0 (first++args++cap)) st) fun x e s=>(x= .norm∨x= .ret)∧fresults s.h e mf.results=some v∧Ext st s):
  Tells T st (.fn k first cap) args v:=
 call_res hen hf hl (hr.mono fun _ _ _ ⟨h1,h2,h3⟩=>⟨h1,v,h2,rfl,h3.dropLoc⟩)
theorem ORes.elim {r:Option (Env×St)} {Q:Env→St→Prop} (h:ORes r Q):∃e s,r=some (e,s)∧Q e s:=by
 unfold ORes at h
 split at h
 ·exact⟨_,_,rfl,h⟩
 ·exact h.elim
@[go_sem] theorem fresults_one (h:Heap) (t:Nat):fresults h e [.t t]=some (eget e t):=rfl
@[go_sem] theorem fresults_none (h:Heap):fresults h e []=some (.tuple []):=rfl
@[go_sem] theorem fresults_two (h:Heap) (t u:Nat):fresults h e [.t t,.t u]=some (.tuple [eget e t,eget e u]):=rfl
@[go_sem] theorem fresults_three (h:Heap) (t u v:Nat):fresults h e [.t t,.t u,.t v]=some (.tuple [eget e t,eget e u,eget e v]):=rfl
attribute [go_sem] afold aminmax argEnv List.getElem?_cons_zero List.getElem?_cons_succ
end Go.Ev

/- From the evaluator's word on a law to the model's. -/
namespace Go.Ev
open Go Go.RowKit
variable {X : Cx} {T : Tab}
theorem law_calls (hT:TabOK chkD X T) (hmix:X.P.follows .mixedOrders=true) {k:Nat} {mf:MFun} (hen:T.en k=none) (hf:T.fn k=some mf) {args:List AV} {st:St} {N:Nu} {w:World} {us:List Value} (hl:args.length=mf.nargs)
  (h:CRes (call T (.fn k [] []) args st) fun v _=>v= .bool true) (hr:SR chkD X N st w) (ha:VRs X N args us) (hown:∀b,¬Own N st.h b):
  Calls X.P (X.φ k) us.toArray w fun e w'=>e= .returned (.bool true)∧Below w.heap.size w w':=by
 obtain⟨v,s,h1,rfl⟩:=h.elim
 rw[call_fn hen hf (by simpa using hl)]at h1
 simp only[List.nil_append,List.append_nil]at h1
 cases hr2:run T mf.body (argEnv 0 args) st with
 | none=>rw[hr2]at h1;cases h1
 | some p=>
   obtain⟨x,e,s2⟩:=p
   rw[hr2]at h1
   obtain⟨n,hn⟩:=run_iff.1 hr2
   have key:(x= .norm∨x= .ret)∧fresults s2.h e mf.results=some (.bool true):=by
    cases x with
    | norm=>
      refine⟨.inl rfl,?_⟩
      simp only[callR]at h1
      cases hv:fresults s2.h e mf.results with
      | none=>rw[hv]at h1;cases h1
      | some u=>rw[hv]at h1;simp only[Option.map_some,Option.some.injEq,Prod.mk.injEq]at h1;rw[h1.1]
    | ret=>
      refine⟨.inr rfl,?_⟩
      simp only[callR]at h1
      cases hv:fresults s2.h e mf.results with
      | none=>rw[hv]at h1;cases h1
      | some u=>rw[hv]at h1;simp only[Option.map_some,Option.some.injEq,Prod.mk.injEq]at h1;rw[h1.1]
    | _=>cases h1
   exact exec_calls (exec_ok hT (drawOK hmix) n) hT hen hf hn key.1 key.2 hr ha hown
def Nu.none:Nu:=⟨fun _=>Option.none,fun _=>0⟩
theorem sr_none (n:Nat) (w:World):SR chkD X Nu.none ⟨[],n⟩ w:=⟨⟨(fun n o h=>by cases h),(fun n m o p a c h=>by cases h)⟩,fun _ _=>rfl⟩
theorem own_none (b:Nat):¬Own Nu.none [] b:=fun⟨n,o,a,h,_⟩=>by cases h
end Go.Ev

/- Short words for the printed bodies of functions. -/
namespace Go.Ev
open Go
instance (n:Nat):OfNat AO n:=⟨.t (OfNat.ofNat n)⟩
@[go_sem] theorem ao_num (n:Nat):(OfNat.ofNat n:AO)= .t (OfNat.ofNat n):=rfl
@[go_sem] theorem MO_nextS {st:St} (call:CallF) (ev:AO→AV) (x:AO):MO.run call ev st (.w (.nextS x))=WO.run call ev st (.nextS x):=rfl
@[go_sem] theorem MO_ustr {st:St} (call:CallF) (ev:AO→AV) (t:Nat) (x y:AO):MO.run call ev st (.w (.ustr t x y))=WO.run call ev st (.ustr t x y):=rfl
namespace B
def p (d:Nat) (o:PO):MI:=⟨some d,none,.p o⟩
def r (d:Nat) (o:RO):MI:=⟨some d,none,.r o⟩
def n (d:Nat) (o:NO):MI:=⟨some d,none,.n o⟩
def w (d:Nat) (o:WO):MI:=⟨some d,none,.w o⟩
def p0 (o:PO):MI:=⟨none,none,.p o⟩
def r0 (o:RO):MI:=⟨none,none,.r o⟩
def n0 (o:NO):MI:=⟨none,none,.n o⟩
def w0 (o:WO):MI:=⟨none,none,.w o⟩
def pg (d t:Nat) (b:Bool) (o:PO):MI:=⟨some d,some (t,b),.p o⟩
def rg (d t:Nat) (b:Bool) (o:RO):MI:=⟨some d,some (t,b),.r o⟩
def ng (d t:Nat) (b:Bool) (o:NO):MI:=⟨some d,some (t,b),.n o⟩
def wg (d t:Nat) (b:Bool) (o:WO):MI:=⟨some d,some (t,b),.w o⟩
def ph (t:Nat) (b:Bool) (o:PO):MI:=⟨none,some (t,b),.p o⟩
def rh (t:Nat) (b:Bool) (o:RO):MI:=⟨none,some (t,b),.r o⟩
def nh (t:Nat) (b:Bool) (o:NO):MI:=⟨none,some (t,b),.n o⟩
def wh (t:Nat) (b:Bool) (o:WO):MI:=⟨none,some (t,b),.w o⟩
attribute [go_sem] p r n w p0 r0 n0 w0 pg rg ng wg ph rh nh wh
end B
end Go.Ev
