/- The scanner reads a decimal. -/
import Derived.Test.YtdlhjfmakdbmkaaGreatDoorP04
import Derived.Lib.RuneBytes
import Derived.Lib.IndexLaws
import Derived.Laws.RangeAny
import Derived.Test.YtdlhjfmakdbmkaaGreatDoorP03
import Derived.Lib.SmallJoins
import Derived.Deep.Slices
import Derived.OpenShut
import Derived.Stop.LaidErr
import Derived.Lib.LaidTab
import Derived.SizedLaws
import Derived.Lib.Join
set_option linter.unusedSimpArgs false
set_option linter.unusedVariables false
set_option linter.unusedSectionVars false
namespace Go.Ev
open Go
variable {T : Tab} {st : St}
theorem Sl.view {s:St} {v:AV} {ty es k:Nat} {cs:List AV} (a:Sl s v ty es k cs):(v= .nilslice∧k=0∧cs=[])∨∃n c,v= .slice n 0 k c∧∀i,i<cs.length→rdCell s.h n i=cs[i]? :=by
 obtain⟨n,a⟩:=a
 rcases a with ⟨h1,h2,h3⟩ | ⟨h1,h2,h3⟩ | ⟨ty',h1,h2,h3⟩
 ·exact .inl ⟨h1,h3,h2⟩
 ·exact .inr ⟨n,_,h1,fun i _=>by simp[rdCell,h2]⟩
 ·exact .inr ⟨n,_,h1,fun i _=>by simp[rdCell,h2]⟩
theorem Sl.lenOf {s:St} {v:AV} {ty es k:Nat} {cs:List AV} (a:Sl s v ty es k cs) {ev:AO→AV} {x:AO} (hx:ev x=v):PO.run ev (.lenOf false x)=some (.int .i64 k):=by
 obtain⟨n,a⟩:=a;exact a.lenOf hx
theorem spanD_rest:∀s:List UInt8,(spanD s).2=s.drop (spanD s).1.length
 | []=>rfl
 | c::r=>by
   simp only[spanD]
   split
   ·simp[spanD_rest r]
   ·simp
theorem spanD_lt:∀s:List UInt8,∀d∈(spanD s).1,d<10
 | [],d,h=>by cases h
 | c::r,d,h=>by
   simp only[spanD]at h
   split at h
   ·rcases List.mem_cons.1 h with rfl | h
    ·omega
    ·exact spanD_lt r d h
   ·cases h
def sgn:List UInt8→Bool×List UInt8
 | c::r=>if c=45 then(true,r)else if c=43 then(false,r)else(false,c::r)
 | []=>(false,[])
theorem sgn_one (s:List UInt8):(sgn s).2=s.drop (if oneB [43,45] s=true then 1 else 0)∧(oneB [43,45] s=false→(sgn s).1=false)∧(oneB [43,45] s=true→∃c r,s=c::r∧(sgn s).1=decide (c=45)):=by
 cases s with
 | nil=>simp[sgn,oneB]
 | cons c r=>
   by_cases h1:c=45
   ·subst h1;simp[sgn,oneB]
   ·by_cases h2:c=43
    ·subst h2;simp[sgn,oneB]
    ·simp[sgn,oneB,h1,h2]
def numD (l:List Nat):Nat:=l.foldl (fun a d=>10*a+d) 0
def decL (s:List UInt8):List Nat:=if oneB [46] (spanD (sgn s).2).2=true then(spanD (sgn s).2).1++(spanD (spanD (sgn s).2).2.tail).1 else(spanD (sgn s).2).1
def decR (s:List UInt8):List UInt8:=if oneB [46] (spanD (sgn s).2).2=true then(spanD (spanD (sgn s).2).2.tail).2 else(spanD (sgn s).2).2
def decD (s:List UInt8):Option (Bool×List Nat×Int):=
 if decL s=[]then none
 else if oneB [101,69] (decR s)=true then
  if(spanD (sgn (decR s).tail).2).1.length<1∨3<(spanD (sgn (decR s).tail).2).1.length then none
  else if(spanD (sgn (decR s).tail).2).2=[]then
   some ((sgn s).1,decL s,(spanD (sgn s).2).1.length+(if(sgn (decR s).tail).1=true then -(numD (spanD (sgn (decR s).tail).2).1:Int)else numD (spanD (sgn (decR s).tail).2).1))
  else none
 else if decR s=[]then some ((sgn s).1,decL s,(spanD (sgn s).2).1.length)else none
theorem num_loop {n:Nat} {cp:Cap} {l:List Nat} (hl:l.length≤3) (hd:∀d∈l,d<10) (st0:St) (hwf:st0.Wf) (hr:∀i,i<l.length→rdCell st0.h n i=(octs l)[i]?):
  ∀(m i:Nat) (e:Env),i+m=l.length→eget e 70= .slice n 0 l.length cp→eget e 71= .int .i64 l.length→eget e 72= .int .i64 i→eget e 9= .int .i64 (numD (l.take i))→numD (l.take i)<10 ^ i→
  Res (run T (.loop B.real_scanner_decimal_l0) e st0) fun x e' s'=>x= .exit 0∧s'=st0∧eget e' 9= .int .i64 (numD l)∧eget e' 0=eget e 0∧eget e' 2=eget e 2∧eget e' 3=eget e 3∧eget e' 4=eget e 4∧eget e' 8=eget e 8:=by
 intro m
 induction m with
 | zero=>
   intro i e hi g70 g71 g72 g9 hb
   have hil:i=l.length:=by omega
   subst hil
   rw[List.take_length]at g9
   rw[run_loop]
   simp[B.real_scanner_decimal_l0,go_sem,g70,g71,g72,g9]
 | succ m ih=>
   intro i e hi g70 g71 g72 g9 hb
   have hil:i<l.length:=by omega
   have hil':(i:Int)<l.length:=by omega
   have hv:=hr i hil
   have hg:(octs l)[i]? =some (.int .u8 (l[i]:Int)):=by simp[octs,List.getElem?_eq_getElem hil]
   rw[hg]at hv
   have hlt:=hd l[i] (List.getElem_mem hil)
   have htk:l.take (i+1)=l.take i++[l[i]]:=List.take_succ_eq_append_getElem hil
   have hn:numD (l.take (i+1))=10*numD (l.take i)+l[i]:=by unfold numD;rw[htk,List.foldl_append];rfl
   have hpow:10 ^ i≤1000:=Nat.le_trans (Nat.pow_le_pow_right (by omega) (show i≤3 by omega)) (by omega)
   have e1:IntKind.i64.wrap (10*(numD (l.take i):Int))=10*numD (l.take i):=wrap64' (by omega) (by omega)
   have e2:IntKind.i64.wrap (10*(numD (l.take i):Int)+l[i])=numD (l.take (i+1)):=by rw[wrap64' (by omega) (by omega),hn];simp
   have e3:IntKind.i64.wrap (l[i]:Int)=l[i]:=wrap64' (by omega) (by omega)
   rw[run_loop]
   simp[B.real_scanner_decimal_l0,go_sem,g70,g71,g72,g9,hil',RO.run,hv,e1,e2,e3]
   refine(ih (i+1) _ (by omega) ?_ ?_ ?_ ?_ ?_).mono ?_
   ·simp[go_sem]
   ·simp[go_sem]
   ·simp[go_sem];rw[wrap64' (by omega) (by omega)]
   ·simp[go_sem]
   ·rw[hn,Nat.pow_succ];omega
   ·rintro x e' s' ⟨rfl,rfl,h1,h2⟩
    simp[go_sem]at h2
    exact⟨rfl,rfl,h1,h2⟩
theorem foldl_numD_lt:∀(l:List Nat) (a:Nat),(∀d∈l,d<10)→l.foldl (fun a d=>10*a+d) a<(a+1)*10 ^ l.length
 | [],a,_=>by simp
 | d::l,a,h=>by
   have ih:=foldl_numD_lt l (10*a+d) (fun x hx=>h x (List.mem_cons_of_mem _ hx))
   have hd:=h d List.mem_cons_self
   simp only[List.foldl_cons,List.length_cons]
   refine Nat.lt_of_lt_of_le ih ?_
   rw[Nat.pow_succ,Nat.mul_comm (10 ^ l.length) 10,←Nat.mul_assoc]
   exact Nat.mul_le_mul_right _ (by omega)
theorem numD_lt {l:List Nat} (h:∀d∈l,d<10):numD l<10 ^ l.length:=by
 have:=foldl_numD_lt l 0 h
 simpa [numD] using this
theorem sgnpos {s:List UInt8} {k:Nat} {b:Bool} (hb:b=oneB [43,45] (s.drop k)):s.drop (if b=true then k+1 else k)=(sgn (s.drop k)).2:=by
 rw[(sgn_one (s.drop k)).1,←hb]
 cases b
 ·simp
 ·simp
def DecOut (st s':St) (v:AV) (o:Option (Bool×List Nat×Int)):Prop:=
 match o with
 | some (neg,l,pt)=>∃sv,v= .tuple [.bool neg,sv,.int .i64 pt,.bool true]∧Sl s' sv 5 1 l.length (octs l)∧Mine [] st sv
 | none=>∃a b c,v= .tuple [a,b,c,.bool false]
theorem decimal_res (H:B.H_real_scanner_decimal T) (hwf:st.Wf) {q:Nat} {s:List UInt8} (hs:s.length<10000000000) (hq:ScnAt st q s 0):
  CRes (call T (.fn 113 [] []) [.ptr q 0] st) fun v s'=>Frm [q] st s'∧DecOut st s' v (decD s):=by
 refine call_res H.e H.f rfl ?_
 have hqn:q<st.nx:=hwf.lt _ _ hq
 have H1:=H.real_scanner_one
 have H2:=H.real_scanner_digits
 simp[B.real_scanner_decimal,go_sem]
 refine(one_res H1 hwf (set:=[43,45]) (by omega) (Nat.zero_le _) (by simp) hq).mono ?_
 rintro v1 s1 ⟨rfl,f1,q1⟩
 obtain⟨b1,hb1⟩:∃b,b=oneB [43,45] s:=⟨_,rfl⟩
 simp only[List.drop_zero,←hb1,Nat.zero_add]at q1⊢
 have p1:s.drop (if b1=true then 1 else 0)=(sgn s).2:=by rw[(sgn_one s).1,←hb1]
 have k1le:(if b1=true then 1 else 0)≤s.length:=by
  cases hb:b1 with
  | false=>simp
  | true=>
    obtain⟨c,r,h,_⟩:=(sgn_one s).2.2 (by rw[←hb1,hb])
    subst h;simp
 generalize hk1:(if b1=true then 1 else 0)=k1 at q1 p1 k1le
 refine put_cut (fun e s'=>s'=s1∧eget e 0= .ptr q 0∧eget e 2= .bool (sgn s).1∧eget e 6= .fn 120 [.ptr q 0] []∧eget e 7= .fn 121 [.ptr q 0] []) ?_ ?_
 ·cases hb:b1 with
  | false=>
    have hneg:=(sgn_one s).2.1 (by rw[←hb1,hb])
    simp[go_sem,hneg]
  | true=>
    obtain⟨c,r,h,hneg⟩:=(sgn_one s).2.2 (by rw[←hb1,hb])
    have r0:=q1.r0
    have hc0:s[0]? =some c:=by rw[h];rfl
    simp[go_sem,RO.run,r0,hc0,hneg]
    rw[←UInt8.toNat_inj]
    exact⟨fun h=>by have:(45:UInt8).toNat=45:=rfl;omega,fun h=>by have:(45:UInt8).toNat=45:=rfl;omega⟩
 rintro e s' ⟨rfl,g0,g2,g6,g7⟩
 clear hk1
 simp[go_sem,g0,g2,g6,g7]
 refine(digits_res H2 f1.wf (by omega) k1le q1).mono ?_
 rintro v1 s2 ⟨f2,m1,nk1,l1,q2⟩
 simp only[p1]at l1 q2
 have f12:=f1.trans f2 (by simp)
 obtain⟨D1,hD1⟩:∃D,D=(spanD (sgn s).2).1:=⟨_,rfl⟩
 obtain⟨R2,hR2⟩:∃R,R=(spanD (sgn s).2).2:=⟨_,rfl⟩
 have p2:s.drop (k1+D1.length)=R2:=by rw[hR2,spanD_rest,←p1,List.drop_drop,hD1,p1]
 have hle2:k1+D1.length≤s.length:=by
  have:=spanD_len (sgn s).2
  rw[←p1,List.length_drop]at this
  rw[hD1,←p1]
  omega
 rw[←hD1]at l1 q2
 have hlen1:=l1.lenOf (ev:=fun _=>v1) (x:= .t 0) rfl
 simp[PO.run]at hlen1
 simp[go_sem,hlen1]
 refine(one_res H1 f2.wf (set:=[46]) (by omega) hle2 (by simp) q2).mono ?_
 rintro v2 s3 ⟨rfl,f3,q3⟩
 have f13:=f12.trans f3 (by simp)
 have hge1:∀n∈v1.nms,s'.nx≤n:=fun n hn=>by
  rcases m1 n hn with h | h
  ·cases h
  ·exact h
 have l1':=l1.frm f3 f2.wf (fun n hn=>by have:=hge1 n hn;have:=f1.nx;simp;omega)
 rw[p2]at q3⊢
 simp[go_sem]
 obtain⟨L,hL⟩:∃L,L=(if oneB [46] R2=true then D1++(spanD R2.tail).1 else D1):=⟨_,rfl⟩
 obtain⟨R4,hR4⟩:∃R,R=(if oneB [46] R2=true then(spanD R2.tail).2 else R2):=⟨_,rfl⟩
 have hnx1:=f1.nx
 have mst:Mine [] st v1:=fun n hn=> .inr (Nat.le_trans hnx1 (hge1 n hn))
 refine Res.mono (Q:=fun x e s4=>x= .norm∧∃k4 sv,eget e 0= .ptr q 0∧eget e 2= .bool (sgn s).1∧eget e 3=sv∧eget e 4= .int .i64 D1.length∧eget e 6= .fn 120 [.ptr q 0] []∧eget e 7= .fn 121 [.ptr q 0] []∧
  Frm [q] st s4∧Sl s4 sv 5 1 L.length (octs L)∧Mine [] st sv∧ScnAt s4 q s k4∧s.drop k4=R4∧k4≤s.length) ?_ ?_
 ·cases hdot:oneB [46] R2 with
  | false=>
    simp only[hdot,Bool.false_eq_true,if_false]at q3 hL hR4
    subst hL hR4
    simp[go_sem]
    exact⟨f13,l1',mst,_,q3,p2,hle2⟩
  | true=>
    simp only[hdot,if_true]at q3 hL hR4
    obtain⟨c,r,hR2'⟩:∃c r,R2=c::r:=by
     cases R2 with
     | nil=>simp[oneB]at hdot
     | cons c r=>exact⟨c,r,rfl⟩
    have hlt:k1+D1.length<s.length:=by
     rcases Nat.lt_or_ge (k1+D1.length) s.length with h | h
     ·exact h
     ·rw[List.drop_of_length_le h]at p2;rw[←p2]at hR2';cases hR2'
    have p3:s.drop (k1+D1.length+1)=R2.tail:=by rw[←p2,List.tail_drop]
    simp[go_sem]
    refine(digits_res H2 f3.wf (by omega) (by omega) q3).mono ?_
    rintro v2 s4 ⟨f4,m2,_,l2,q4⟩
    rw[p3]at l2 q4
    have l1'':=l1'.frm f4 f3.wf (fun n hn=>by have:=hge1 n hn;have:=f1.nx;simp;omega)
    have f14:=f13.trans f4 (by simp)
    have hnx3:=f13.nx
    have hlen2:=spanD_len R2.tail
    have hlen1':=spanD_len (sgn s).2
    have hlen0:(sgn s).2.length≤s.length:=by rw[←p1];simp
    have hlR:R2.tail.length≤s.length:=by rw[←p3];simp
    have hD1l:D1.length≤s.length:=by omega
    have hap:=Sl.append (b:=1) (Frm.refl f4.wf v1.nms) (fun n h=> .inl h) l1'' l2.rd (octs_sc _) (by omega) (by omega) (.inr (fun n c=>nk1 _ _ _ _))
    simp[go_sem]
    refine hap.mono ?_
    rintro v3 s5 ⟨j1,j2,j3,_⟩
    simp[go_sem]
    have hm3:Mine [] st v3:=fun n hn=>by
     rcases j3 n hn with h | h
     ·exact .inr (Nat.le_trans hnx1 (hge1 n h))
     ·exact .inr (Nat.le_trans f14.nx h)
    refine⟨f14.trans j2 (fun n hn=> .inr (Nat.le_trans hnx1 (hge1 n hn))),?_,hm3,_,j2.get f4.wf q4 (fun h=>by have:=hge1 q h;omega),?_,?_⟩
    ·rw[hL,List.length_append];rw[show octs (D1++(spanD R2.tail).1)=octs D1++octs (spanD R2.tail).1 by simp[octs]];exact j1
    ·rw[hR4,spanD_rest,←p3,List.drop_drop]
    ·have:R2.tail.length=s.length - (k1+D1.length+1):=by rw[←p3];simp
     omega
 rintro x e s4 ⟨rfl,k4,sv,c0,c2,c3,c4,c6,c7,f14,l4,m4,q4,p4,hle4⟩
 have hdec:decD s=(if L=[]then none else if oneB [101,69] R4=true then
   (if(spanD (sgn R4.tail).2).1.length<1∨3<(spanD (sgn R4.tail).2).1.length then none
    else if(spanD (sgn R4.tail).2).2=[]then some ((sgn s).1,L,D1.length+(if(sgn R4.tail).1=true then -(numD (spanD (sgn R4.tail).2).1:Int)else numD (spanD (sgn R4.tail).2).1))else none)
   else if R4=[]then some ((sgn s).1,L,(D1.length:Int))else none):=by
  simp only[decD,decL,decR,←hD1,←hR2,←hL,←hR4]
 have hgeL:∀n∈sv.nms,st.nx≤n:=fun n hn=>by
  rcases m4 n hn with h | h
  ·cases h
  ·exact h
 have hlen4:=l4.lenOf (ev:=fun _=>sv) (x:= .t 0) rfl
 simp[PO.run]at hlen4
 clear hL hR4 hR2 hD1 p2 l1' l1 q3 q2 q1 hlen1
 by_cases hL0:L=[]
 ·subst hL0
  rw[hdec]
  simp only[List.length_nil]at hlen4
  simp[go_sem,c0,c2,c3,c4,c6,c7,hlen4]
  exact⟨.tuple [.bool false,.nilslice,.int .i64 0,.bool false],by simp[fresults,resVals,resVal,go_sem],f14.dropLoc,_,_,_,rfl⟩
 have hLl:¬(L.length:Int)=0:=by
  have:L.length≠0:=fun h=>hL0 (List.length_eq_zero_iff.1 h)
  omega
 simp[go_sem,c0,c2,c3,c4,c6,c7,hlen4,hL0]
 refine(one_res H1 f14.wf (set:=[101,69]) (by omega) hle4 (by simp) q4).mono ?_
 rintro v2 s5 ⟨rfl,f5,q5⟩
 have f15:=f14.trans f5 (by simp)
 have l5:=l4.frm f5 f14.wf (fun n hn=>by have:=hgeL n hn;simp;omega)
 rw[p4]at q5⊢
 simp[go_sem,c0,c2,c3,c4,c6,c7]
 refine Res.mono (Q:=fun x e s6=>(x= .norm∧∃(k:Nat) (pt:Int),eget e 0= .ptr q 0∧eget e 2= .bool (sgn s).1∧eget e 3=sv∧eget e 4= .int .i64 pt∧Frm [q] st s6∧Sl s6 sv 5 1 L.length (octs L)∧
   ScnAt s6 q s k∧decD s=(if k=s.length then some ((sgn s).1,L,pt)else none))∨
   (x= .ret∧Frm [q] st s6∧decD s=none∧∃a b c,eget e 2=a∧eget e 3=b∧eget e 4=c∧eget e 5= .bool false)) ?_ ?_
 ·cases hexp:oneB [101,69] R4 with
  | false=>
    simp only[hexp,Bool.false_eq_true,if_false]at q5 hdec
    simp[go_sem,c0,c2,c3,c4]
    refine⟨f15,l5,k4,q5,?_⟩
    rw[hdec,if_neg hL0]
    have:(R4=[])↔k4=s.length:=by
     rw[←p4];simp;omega
    simp[this]
  | true=>
    simp only[hexp,if_true]at q5 hdec
    rw[if_neg hL0]at hdec
    obtain⟨c,r,hR4'⟩:∃c r,R4=c::r:=by
     cases R4 with
     | nil=>simp[oneB]at hexp
     | cons c r=>exact⟨c,r,rfl⟩
    have hlt:k4<s.length:=by
     rcases Nat.lt_or_ge k4 s.length with h | h
     ·exact h
     ·rw[List.drop_of_length_le h]at p4;rw[←p4]at hR4';cases hR4'
    have p5:s.drop (k4+1)=R4.tail:=by rw[←p4,List.tail_drop]
    have xa:=Ext.aside f15.wf 18
    simp[go_sem,c0,c2,c3,c4,c6,c7]
    refine(one_res H1 xa.wf (k:=k4+1) (set:=[43,45]) (by omega) (by omega) (by simp) (show ScnAt ⟨s5.h,s5.nx+18⟩ q s (k4+1)from q5)).mono ?_
    rintro v3 s6 ⟨rfl,f6,q6⟩
    obtain⟨b6,hb6⟩:∃b,b=oneB [43,45] R4.tail:=⟨_,rfl⟩
    rw[p5]at q6⊢
    rw[←hb6]at q6⊢
    have p6:s.drop (if b6=true then k4+1+1 else k4+1)=(sgn R4.tail).2:=by
     rw[←p5]
     exact sgnpos (by rw[p5];exact hb6)
    have k6le:(if b6=true then k4+1+1 else k4+1)≤s.length:=by
     cases hb:b6 with
     | false=>simp;omega
     | true=>
       obtain⟨c,r,h,_⟩:=(sgn_one R4.tail).2.2 (by rw[←hb6,hb])
       have:R4.tail.length=s.length - (k4+1):=by rw[←p5];simp
       rw[h]at this
       simp at this⊢
       omega
    have f16:=f15.trans ((xa.fr [q]).trans f6 (by simp)) (by simp)
    have l6:=(l5.ext xa f15.wf).frm f6 xa.wf (fun n hn=>by have:=hgeL n hn;simp;omega)
    refine putI_cut (fun e s'=>s'=s6∧eget e 0= .ptr q 0∧eget e 2= .bool (sgn s).1∧eget e 3=sv∧eget e 4= .int .i64 D1.length∧eget e 7= .fn 121 [.ptr q 0] []∧eget e 8= .bool (sgn R4.tail).1) ?_ ?_
    ·cases hb:b6 with
     | false=>
       have hneg:=(sgn_one R4.tail).2.1 (by rw[←hb6,hb])
       simp[go_sem,hneg,c0,c2,c3,c4,c7]
     | true=>
       obtain⟨c,r,h,hneg⟩:=(sgn_one R4.tail).2.2 (by rw[←hb6,hb])
       rw[hb]at q6
       simp only[if_true]at q6
       have r0:=q6.r0
       have r1:=q6.r1
       have hc0:s[k4+1]? =some c:=by
        have:(s.drop (k4+1))[0]? =some c:=by rw[p5,h];rfl
        simpa using this
       have e1:IntKind.i64.wrap ((k4:Int)+1)=k4+1:=wrap64' (by omega) (by omega)
       have e2:((k4:Int)+1).toNat=k4+1:=by omega
       have e3:(0:Int)≤(k4:Int)+1:=by omega
       simp[go_sem,RO.run,r0,r1,hc0,hneg,e1,e2,e3,c0,c2,c3,c4,c7]
       rw[←UInt8.toNat_inj]
       exact⟨fun h=>by have:(45:UInt8).toNat=45:=rfl;omega,fun h=>by have:(45:UInt8).toNat=45:=rfl;omega⟩
    rintro e' s' ⟨rfl,d0,d2,d3,d4,d7,d8⟩
    generalize hk6:(if b6=true then k4+1+1 else k4+1)=k6 at q6 p6 k6le
    simp[go_sem,d0,d2,d3,d4,d7,d8]
    refine(digits_res H2 f16.wf (by omega) k6le q6).mono ?_
    rintro v4 s7 ⟨f7,m7,_,l7,q7⟩
    have f17:=f16.trans f7 (by simp)
    have l67:=l6.frm f7 f16.wf (fun n hn=>by have:=hgeL n hn;simp;omega)
    rw[p6]at l7 q7
    generalize hE:(spanD (sgn R4.tail).2).1=E at l7 q7 hdec
    have hR7:(spanD (sgn R4.tail).2).2=s.drop (k6+E.length):=by rw[spanD_rest,hE,←p6,List.drop_drop]
    have hlen7:=l7.lenOf (ev:=fun _=>v4) (x:= .t 0) rfl
    simp[PO.run]at hlen7
    by_cases hbad:E.length<1∨3<E.length
    ·rw[if_pos hbad]at hdec
     by_cases h1:E.length<1
     ·have h1':(E.length:Int)<1:=by omega
      simp[go_sem,hlen7,h1',f17,hdec]
     ·have h1':¬(E.length:Int)<1:=by omega
      have h2':(3:Int)<E.length:=by omega
      simp[go_sem,hlen7,h1',h2',f17,hdec]
    ·rw[if_neg hbad]at hdec
     have h1':¬(E.length:Int)<1:=by omega
     have h2':¬(3:Int)<E.length:=by omega
     simp[go_sem,hlen7,h1',h2']
     rcases l7.view with ⟨_,hz,_⟩ | ⟨n,cp,hv4,hrd⟩
     ·omega
     subst hv4
     refine(num_loop (n:=n) (cp:=cp) (l:=E) (by omega) (fun d hd=>spanD_lt _ d (by rw[hE];exact hd)) s7 f17.wf (fun i hi=>hrd i (by rw[octs_len];exact hi)) E.length 0 _ (by simp) ?_ ?_ ?_ ?_ ?_).mono ?_
     ·simp[go_sem]
     ·simp[go_sem]
     ·simp[go_sem]
     ·simp[go_sem,numD]
     ·simp[numD]
     ·rintro x e9 s8 ⟨rfl,rfl,w9,w0,w2,w3,w4,w8⟩
      simp[go_sem]at w0 w2 w3 w4 w8
      have hnb:numD E<1000:=by
       have:=numD_lt (l:=E) (fun d hd=>spanD_lt _ d (by rw[hE];exact hd))
       have hp:10 ^ E.length≤10 ^ 3:=Nat.pow_le_pow_right (by omega) (by omega)
       omega
      have hD1l:D1.length≤s.length:=by omega
      have hend:(s.drop (k6+E.length)=[])↔k6+E.length=s.length:=by
       have:k6+E.length≤s.length:=by
        have:=spanD_len (sgn R4.tail).2
        rw[hE,←p6,List.length_drop]at this
        omega
       rw[List.drop_eq_nil_iff]
       omega
      rw[hR7]at hdec
      cases hdn:(sgn R4.tail).1 with
      | false=>
        rw[hdn]at hdec w8
        simp only[Bool.false_eq_true,if_false]at hdec
        have e1:IntKind.i64.wrap ((D1.length:Int)+numD E)=D1.length+numD E:=wrap64' (by omega) (by omega)
        simp[go_sem,w9,w0,w2,w3,w4,w8,e1]
        refine⟨f17,l67,_,q7,?_⟩
        rw[hdec]
        simp only[hend]
      | true=>
        rw[hdn]at hdec w8
        simp only[if_true]at hdec
        have e0:IntKind.i64.wrap (-(numD E:Int))= -(numD E:Int):=wrap64' (by omega) (by omega)
        have e1:IntKind.i64.wrap ((D1.length:Int)+ -(numD E:Int))=D1.length+ -(numD E:Int):=wrap64' (by omega) (by omega)
        simp[go_sem,w9,w0,w2,w3,w4,w8,e0,e1]
        refine⟨f17,l67,_,q7,?_⟩
        rw[hdec]
        simp only[hend]
 ·rintro x e s6 (⟨rfl,k,pt,d0,d2,d3,d4,f16,l6,q6,hd⟩ | ⟨rfl,f16,hd,a,b,c,d2,d3,d4,d5⟩)
  ·have r0:=q6.r0
   have r1:=q6.r1
   have xa:=Ext.aside f16.wf 19
   have f17:=f16.trans (xa.fr [q]) (by simp)
   simp[go_sem,d0,d2,d3,d4,RO.run,r0,r1,fresults,resVals,resVal]
   refine⟨f17.dropLoc,?_⟩
   rw[hd]
   by_cases hk:k=s.length
   ·subst hk
    simp only[if_true]
    exact⟨sv,by simp,l6.dropLoc f16.wf,m4⟩
   ·have hk':¬(k:Int)=s.length:=by omega
    rw[if_neg hk]
    exact⟨.bool (sgn s).1,sv,.int .i64 pt,by simp[hk']⟩
  ·simp[go_sem,d2,d3,d4,d5,fresults,resVals,resVal]
   refine⟨f16.dropLoc,?_⟩
   rw[hd]
   exact⟨_,_,_,rfl⟩
end Go.Ev

/- Reals parsed. -/
namespace Go.Ev
open Go
variable {T : Tab} {st : St}
theorem realIs_tells (H:B.H_real_Is T) (hwf:st.Wf) {n:Int}:Tells T st (.fn 110 [] []) [.int .i64 n] (.bool (decide (-2147483648≤n) && decide (n≤2147483648))):=by
 refine tells_of H.e H.f rfl ?_
 by_cases h1: -2147483648≤n
 ·simp[B.real_Is,go_sem,h1,Ext.refl hwf]
 ·simp[B.real_Is,go_sem,h1,Ext.refl hwf]
def frontF:Nat→List Nat→Nat
 | n,[]=>n
 | n,d::r=>if 2147483648<10*n+d then 10*n+d else frontF (10*n+d) r
def intD (l:List Nat) (pt:Int):List Nat:=(List.range pt.toNat).map fun i=>l.getD i 0
def SlR (h:Heap) (v:AV) (l:List Nat):Prop:=(v= .nilslice∧l=[])∨∃n c,v= .slice n 0 l.length c∧∀i,i<l.length→rdCell h n i=some (.int .u8 (l.getD i 0:Nat))
theorem Sl.slR {s:St} {v:AV} {l:List Nat} (a:Sl s v 5 1 l.length (octs l)):SlR s.h v l:=by
 rcases a.view with ⟨h1,h2,h3⟩ | ⟨n,c,h1,h2⟩
 ·exact .inl ⟨h1,List.length_eq_zero_iff.1 h2⟩
 ·refine .inr ⟨n,c,h1,fun i hi=> ?_⟩
  rw[h2 i (by rw[octs_len];exact hi)]
  simp[octs,List.getElem?_eq_getElem hi]
theorem front_loop {v:AV} {l:List Nat} {pt:Int} (hd:∀i,l.getD i 0<10) (hll:l.length<9223372036854775807) (hpt:pt≤9223372036854775807) (st0:St) (hwf:st0.Wf) (hv:SlR st0.h v l):
  ∀(m i n:Nat) (e:Env),(pt - i).toNat=m→(i:Int)≤pt→n≤2147483648→eget e 0=v→eget e 1= .int .i64 pt→eget e 5= .int .i64 n→eget e 6= .int .i64 i→
  Res (run T (.loop B.real_front_l0) e st0) fun x e' s'=>s'=st0∧((x= .exit 0∧eget e' 5= .int .i64 (frontF n ((List.range' i m).map fun i=>l.getD i 0)))∨(x= .ret∧eget e' 4= .int .i64 (frontF n ((List.range' i m).map fun i=>l.getD i 0)))):=by
 intro m
 induction m with
 | zero=>
   intro i n e hi hle hn g0 g1 g5 g6
   have hil:¬(i:Int)<pt:=by omega
   rw[run_loop]
   simp[B.real_front_l0,go_sem,g0,g1,g5,g6,hil,frontF]
 | succ m ih=>
   intro i n e hi hle hn g0 g1 g5 g6
   have hil:(i:Int)<pt:=by omega
   have hd':=hd i
   rw[List.range'_succ]
   generalize hdi:l.getD i 0=d at hd'
   have e1:IntKind.i64.wrap (10*(n:Int))=10*n:=wrap64' (by omega) (by omega)
   have e2:IntKind.i64.wrap (10*(n:Int)+d)=((10*n+d:Nat):Int):=by rw[wrap64' (by omega) (by omega)];omega
   have e3:IntKind.i64.wrap (d:Int)=d:=wrap64' (by omega) (by omega)
   have hd0:l.length≤i→d=0:=fun h=>by rw[←hdi,List.getD_eq_getElem?_getD,List.getElem?_eq_none h];rfl
   have big:(2147483648<(10*(n:Int)+d))↔2147483648<10*n+d:=by omega
   simp only[List.map_cons,hdi,frontF]
   rw[run_loop]
   by_cases hin:i<l.length
   ·have hin':(i:Int)<l.length:=by omega
    rcases hv with ⟨_,rfl⟩ | ⟨nn,c,rfl,hr⟩
    ·simp at hin
    have hri:=hr i hin
    rw[hdi]at hri
    by_cases hb:2147483648<10*n+d
    ·have hb':2147483648<10*(n:Int)+d:=by omega
     simp[B.real_front_l0,go_sem,g0,g1,g5,g6,hil,hin',RO.run,hri,e1,e2,e3,hb,hb']
    ·have hb':¬2147483648<10*(n:Int)+d:=by omega
     simp[B.real_front_l0,go_sem,g0,g1,g5,g6,hil,hin',RO.run,hri,e1,e2,e3,hb,hb']
     refine(ih (i+1) (10*n+d) _ (by omega) (by omega) (by omega) ?_ ?_ ?_ ?_).mono fun x e' s' h=>h
     ·simp[go_sem]
     ·simp[go_sem]
     ·simp[go_sem]
     ·simp[go_sem];rw[wrap64' (by omega) (by omega)]
   ·have hd1:=hd0 (by omega)
    subst hd1
    simp only[Nat.add_zero,Int.natCast_zero,Int.add_zero]at e2 big⊢
    have hin':¬(i:Int)<l.length:=by omega
    rcases hv with ⟨rfl,rfl⟩ | ⟨nn,c,rfl,hr⟩
    ·have hi0:¬(i:Int)<0:=by omega
     by_cases hb:2147483648<10*n
     ·have hb':2147483648<10*(n:Int):=by omega
      simp[B.real_front_l0,go_sem,g0,g1,g5,g6,hil,hi0,e1,hb,hb']
     ·have hb':¬2147483648<10*(n:Int):=by omega
      simp[B.real_front_l0,go_sem,g0,g1,g5,g6,hil,hi0,e1,hb,hb']
      refine(ih (i+1) (10*n) _ (by omega) (by omega) (by omega) ?_ ?_ ?_ ?_).mono fun x e' s' h=>by simpa using h
      ·simp[go_sem]
      ·simp[go_sem]
      ·simp[go_sem]
      ·simp[go_sem];rw[wrap64' (by omega) (by omega)]
    ·by_cases hb:2147483648<10*n
     ·have hb':2147483648<10*(n:Int):=by omega
      simp[B.real_front_l0,go_sem,g0,g1,g5,g6,hil,hin',e1,hb,hb']
     ·have hb':¬2147483648<10*(n:Int):=by omega
      simp[B.real_front_l0,go_sem,g0,g1,g5,g6,hil,hin',e1,hb,hb']
      refine(ih (i+1) (10*n) _ (by omega) (by omega) (by omega) ?_ ?_ ?_ ?_).mono fun x e' s' h=>h
      ·simp[go_sem]
      ·simp[go_sem]
      ·simp[go_sem]
      ·simp[go_sem];rw[wrap64' (by omega) (by omega)]
theorem front_tells (H:B.H_real_front T) (hwf:st.Wf) {v:AV} {l:List Nat} {pt:Int} (hd:∀i,l.getD i 0<10) (hll:l.length<9223372036854775807) (hpt:pt≤9223372036854775807) (hv:SlR st.h v l):
  Tells T st (.fn 114 [] []) [v,.int .i64 pt] (.int .i64 (frontF 0 (intD l pt))):=by
 refine tells_of H.e H.f rfl ?_
 have hI:intD l pt=(List.range' 0 pt.toNat).map fun i=>l.getD i 0:=by rw[intD,List.range_eq_range']
 by_cases h0:0≤pt
 ·simp[B.real_front,go_sem]
  refine(front_loop hd hll hpt st hwf hv pt.toNat 0 0 _ (by omega) (by omega) (by omega) ?_ ?_ ?_ ?_).mono ?_
  ·simp[go_sem]
  ·simp[go_sem]
  ·simp[go_sem]
  ·simp[go_sem]
  ·rw[hI]
   rintro x e s' ⟨rfl,⟨rfl,h⟩ | ⟨rfl,h⟩⟩
   ·simp[go_sem,h,Ext.refl hwf]
   ·simp[go_sem,h,Ext.refl hwf]
 ·have hz:intD l pt=[]:=by rw[hI,show pt.toNat=0 by omega];rfl
  rw[hz]
  have hn:¬0<pt:=by omega
  simp[B.real_front,go_sem]
  rw[run_loop]
  simp[B.real_front_l0,go_sem,hn,frontF,Ext.refl hwf]
def fracD (l:List Nat) (pt:Int):List Nat:=List.replicate (-pt).toNat 0++l.drop pt.toNat
theorem SlR.ext {st st':St} {v:AV} {l:List Nat} (h:SlR st.h v l) (hw:st.Wf) (x:Ext st st'):SlR st'.h v l:=by
 rcases h with h | ⟨n,c,h1,h2⟩
 ·exact .inl h
 ·refine .inr ⟨n,c,h1,fun i hi=> ?_⟩
  have h3:=h2 i hi
  have:∃o,hget st.h n=some o:=by
   unfold rdCell at h3
   split at h3
   ·exact⟨_,by assumption⟩
   ·exact⟨_,by assumption⟩
   ·exact⟨_,by assumption⟩
   ·exact⟨_,by assumption⟩
   ·cases h3
  obtain⟨o,ho⟩:=this
  have h4:=x.get hw ho
  unfold rdCell at h3⊢
  rw[h4]
  rw[ho]at h3
  exact h3
def remD (l:List Nat) (pt i:Int):List Nat:=List.replicate (-i).toNat 0++l.drop (max i pt).toNat
theorem fraction_loop {v0:AV} {l:List Nat} {pt:Int} (hll:l.length<1000000000) (hpt: -1000000000≤pt) (st0:St) (hwf0:st0.Wf) (hv0:SlR st0.h v0 l):
  ∀(m:Nat) (i:Int) (e:Env) (st1:St) (v:AV) (acc:List Nat),(l.length - i).toNat=m→min pt 0≤i→i≤l.length→Ext st0 st1→Sl st1 v 5 1 acc.length (octs acc)→Mine [] st0 v→NK v→(acc.length:Int)≤i - min pt 0→
   eget e 0=v0→eget e 1= .int .i64 pt→eget e 5=v→eget e 6= .int .i64 i→
  Res (run T (.loop B.real_fraction_l0) e st1) fun x e' s'=>x= .exit 0∧Ext st0 s'∧Sl s' (eget e' 5) 5 1 (acc++remD l pt i).length (octs (acc++remD l pt i))∧Mine [] st0 (eget e' 5)∧NK (eget e' 5):=by
 intro m
 induction m with
 | zero=>
   intro i e st1 v acc hi hlo hle hx hv hm hnk hacc g0 g1 g5 g6
   have hil:i=l.length:=by omega
   subst hil
   have hlen:∃k:Nat,k=l.length∧(v0= .nilslice∨∃n c,v0= .slice n 0 k c):=by
    rcases hv0 with ⟨h1,rfl⟩ | ⟨n,c,h1,_⟩
    ·exact⟨0,rfl,.inl h1⟩
    ·exact⟨_,rfl,.inr ⟨n,c,h1⟩⟩
   have hr:remD l pt l.length=[]:=by
    unfold remD
    rw[show (-(l.length:Int)).toNat=0 by omega,List.drop_of_length_le (by omega)]
    rfl
   rw[hr,List.append_nil,run_loop]
   rcases hv0 with ⟨rfl,rfl⟩ | ⟨n,c,rfl,_⟩
   ·simp[B.real_fraction_l0,go_sem,g0,g1,g5,g6]
    exact⟨hx,hv,hm,hnk⟩
   ·simp[B.real_fraction_l0,go_sem,g0,g1,g5,g6]
    exact⟨hx,hv,hm,hnk⟩
 | succ m ih=>
   intro i e st1 v acc hi hlo hle hx hv hm hnk hacc g0 g1 g5 g6
   have hil:i<l.length:=by omega
   have hge:∀n∈v.nms,st0.nx≤n:=fun n hn=>by
    rcases hm n hn with h | h
    ·cases h
    ·exact h
   have e1:IntKind.i64.wrap (i+1)=i+1:=wrap64' (by omega) (by omega)
   have push:∀(y:Nat) (K:AV→St→Prop),(∀v' s,Ext st0 s→Sl s v' 5 1 (acc++[y]).length (octs (acc++[y]))→Mine [] st0 v'→NK v'→K v' s)→
     CRes (aappend 5 1 1 ⟨(st1.nx,.cells 5 false [.int .u8 (y:Int)])::st1.h,st1.nx+1⟩ v (.slice st1.nx 0 1 (.known 1))) K:=by
    intro y K hK
    have h1:=Sl.push (b:=1) (y:= .int .u8 (y:Int)) (st0:=st1) (Frm.refl hx.wf v.nms) (fun n h=> .inl h) hv rfl (by omega) (by omega)
     (Q:=fun v' s=>Sl s v' 5 1 (acc.length+1) (octs acc++[.int .u8 (y:Int)])∧Frm v.nms st1 s∧Mine v.nms st1 v') (fun v' s a b c _=>⟨a,b,c⟩)
    refine(h1.also (fun _ _ h=>aappend_nk h hnk)).mono ?_
    rintro v' s ⟨⟨a,b,c⟩,d⟩
    refine hK v' s ((hx.fr v.nms).trans b (fun n h=> .inl h) |>.ext hge) (by rw[octs_snoc];simpa using a) (fun n hn=> ?_) d
    rcases c n hn with h | h
    ·exact .inr (hge n h)
    ·exact .inr (Nat.le_trans hx.nx h)
   rw[run_loop]
   have lenE:∃k:Nat,k=l.length:=⟨_,rfl⟩
   by_cases hneg:i<0
   ·have hrem:remD l pt i=0::remD l pt (i+1):=by
     unfold remD
     rw[show (-i).toNat=(-(i+1)).toNat+1 by omega,List.replicate_succ,show (max i pt).toNat=(max (i+1) pt).toNat by omega]
     rfl
    rcases hv0 with ⟨rfl,rfl⟩ | ⟨n,c,rfl,hr⟩
    ·simp at hil
     simp[B.real_fraction_l0,go_sem,g0,g1,g5,g6,hneg,NO.run,reps]
     refine push 0 _ fun v' s a1 a2 a3 a4=> ?_
     simp[go_sem,e1]
     refine(ih (i+1) _ s v' (acc++[0]) (by omega) (by omega) (by simp;omega) a1 a2 a3 a4 (by simp;omega) ?_ ?_ ?_ ?_).mono ?_
     ·simp[go_sem]
     ·simp[go_sem]
     ·simp[go_sem]
     ·simp[go_sem]
     ·rintro x e' s' ⟨rfl,b1,b2,b3,b4⟩
      rw[hrem]
      exact⟨rfl,b1,by simpa using b2,b3,b4⟩
    ·simp[B.real_fraction_l0,go_sem,g0,g1,g5,g6,hneg,hil,NO.run,reps]
     refine push 0 _ fun v' s a1 a2 a3 a4=> ?_
     simp[go_sem,e1]
     refine(ih (i+1) _ s v' (acc++[0]) (by omega) (by omega) (by omega) a1 a2 a3 a4 (by simp;omega) ?_ ?_ ?_ ?_).mono ?_
     ·simp[go_sem]
     ·simp[go_sem]
     ·simp[go_sem]
     ·simp[go_sem]
     ·rintro x e' s' ⟨rfl,b1,b2,b3,b4⟩
      rw[hrem]
      exact⟨rfl,b1,by simpa using b2,b3,b4⟩
   ·obtain⟨j,rfl⟩:=Int.eq_ofNat_of_zero_le (show 0≤i by omega)
    have hjl:j<l.length:=by omega
    have hn0:¬(j:Int)<0:=by omega
    have hv1:=hv0.ext hwf0 hx
    rcases hv0 with ⟨rfl,rfl⟩ | ⟨n,c,rfl,_⟩
    ·simp at hjl
    have hrj:rdCell st1.h n j=some (.int .u8 (l.getD j 0:Nat)):=by
     rcases hv1 with ⟨h,_⟩ | ⟨n',c',h,hr⟩
     ·cases h
     ·cases h;exact hr j hjl
    by_cases hp:pt≤(j:Int)
    ·have hrem:remD l pt j=l.getD j 0::remD l pt (j+1):=by
      unfold remD
      rw[show (-(j:Int)).toNat=0 by omega,show (-((j:Int)+1)).toNat=0 by omega,show (max (j:Int) pt).toNat=j by omega,show (max ((j:Int)+1) pt).toNat=j+1 by omega,
       List.drop_eq_getElem_cons hjl]
      simp[List.getElem?_eq_getElem hjl]
     generalize hy:l.getD j 0=y at hrj hrem
     simp[B.real_fraction_l0,go_sem,g0,g1,g5,g6,hil,hn0,hp,NO.run,RO.run,hrj,reps]
     refine push y _ fun v' s a1 a2 a3 a4=> ?_
     simp[go_sem,e1]
     refine(ih (j+1) _ s v' (acc++[y]) (by omega) (by omega) (by omega) a1 a2 a3 a4 (by simp;omega) ?_ ?_ ?_ ?_).mono ?_
     ·simp[go_sem]
     ·simp[go_sem]
     ·simp[go_sem]
     ·simp[go_sem]
     ·rintro x e' s' ⟨rfl,b1,b2,b3,b4⟩
      rw[hrem]
      exact⟨rfl,b1,by simpa using b2,b3,b4⟩
    ·have hrem:remD l pt j=remD l pt (j+1):=by
      unfold remD
      rw[show (-(j:Int)).toNat=0 by omega,show (-((j:Int)+1)).toNat=0 by omega,show (max (j:Int) pt).toNat=(max ((j:Int)+1) pt).toNat by omega]
     simp[B.real_fraction_l0,go_sem,g0,g1,g5,g6,hil,hn0,hp,e1]
     rw[hrem]
     refine(ih (j+1) _ st1 v acc (by omega) (by omega) (by omega) hx hv hm hnk (by omega) ?_ ?_ ?_ ?_).mono ?_
     ·simp[go_sem]
     ·simp[go_sem]
     ·simp[go_sem]
     ·simp[go_sem]
     ·rintro x e' s' ⟨rfl,b1,b2,b3,b4⟩
      exact⟨rfl,b1,by simpa using b2,b3,b4⟩
theorem fraction_res (H:B.H_real_fraction T) (hwf:st.Wf) {v:AV} {l:List Nat} {pt:Int} (hll:l.length<1000000000) (hpt: -1000000000≤pt) (hv:SlR st.h v l):
  CRes (call T (.fn 115 [] []) [v,.int .i64 pt] st) fun v' s'=>Ext st s'∧Sl s' v' 5 1 (fracD l pt).length (octs (fracD l pt))∧Mine [] st v'∧NK v':=by
 refine call_res H.e H.f rfl ?_
 have hmin:(if(0:Int)<pt then 0 else pt)=min pt 0:=by omega
 have hrem:fracD l pt=remD l pt (min pt 0):=by
  unfold fracD remD
  rw[show (-(min pt 0)).toNat=(-pt).toNat by omega,show (max (min pt 0) pt).toNat=pt.toNat by omega]
 simp[B.real_fraction,go_sem,hmin]
 refine(fraction_loop hll hpt st hwf hv (l.length - min pt 0).toNat (min pt 0) _ st .nilslice [] rfl (Int.le_refl _) (by omega) (.refl hwf) (.nil _ _ _) (Mine.nil _ _) (fun _ _ _ _ h=>by cases h) (by simp) ?_ ?_ ?_ ?_).mono ?_
 ·simp[go_sem]
 ·simp[go_sem]
 ·simp[go_sem]
 ·simp[go_sem]
 ·rintro x e' s' ⟨rfl,b1,b2,b3,b4⟩
  simp only[List.nil_append]at b2
  simp[go_sem,hrem]
  exact⟨b1.dropLoc,b2.dropLoc b1.wf,b3,b4⟩
end Go.Ev

/- real.Parse told. -/
namespace Go.Ev
open Go
variable {T : Tab} {st : St}
def dbl:List Nat→Nat×List Nat
 | []=>(0,[])
 | d::r=>((2*d+(dbl r).1) / 10,(2*d+(dbl r).1) % 10::(dbl r).2)
theorem dbl_len:∀l,(dbl l).2.length=l.length
 | []=>rfl
 | d::r=>by simp[dbl,dbl_len r]
theorem dbl_carry:∀l,(∀d∈l,d<10)→(dbl l).1≤1
 | [],_=>by simp[dbl]
 | d::r,h=>by
   have:=dbl_carry r (fun x hx=>h x (List.mem_cons_of_mem _ hx))
   have:=h d List.mem_cons_self
   simp only[dbl];omega
theorem dbl_lt:∀l,∀d∈(dbl l).2,d<10
 | [],d,h=>by cases h
 | x::r,d,h=>by
   simp only[dbl]at h
   rcases List.mem_cons.1 h with rfl | h
   ·omega
   ·exact dbl_lt r d h
theorem SlAt.form {h:Heap} {v:AV} {n ty es k:Nat} {cs:List AV} (a:SlAt h v n ty es k cs) (hk:0<k):∃c,v= .slice n 0 k c:=by
 rcases a with ⟨h1,h2,h3⟩ | ⟨h1,h2,h3⟩ | ⟨ty',h1,h2,h3⟩
 ·omega
 ·exact⟨_,h1⟩
 ·exact⟨_,h1⟩
theorem double_loop {v:AV} {n:Nat} {l:List Nat} (hd:∀d∈l,d<10) (hll:l.length<9223372036854775807) (st0:St):
  ∀(m:Nat) (e:Env) (st1:St),m≤l.length→Frm [n] st0 st1→SlAt st1.h v n 5 1 l.length (octs (l.take m++(dbl (l.drop m)).2))→eget e 0=v→eget e 3= .int .u8 (dbl (l.drop m)).1→eget e 4= .int .i64 ((m:Int) - 1)→
  Res (run T (.loop B.real_double_l0) e st1) fun x e' s'=>x= .exit 0∧Frm [n] st0 s'∧SlAt s'.h v n 5 1 l.length (octs (dbl l).2)∧eget e' 3= .int .u8 (dbl l).1:=by
 intro m
 induction m with
 | zero=>
   intro e st1 hm hf ha g0 g3 g4
   rw[run_loop]
   simp only[List.drop_zero,List.take_zero,List.nil_append]at ha g3
   simp[B.real_double_l0,go_sem,g0,g3,g4]
   exact⟨hf,ha⟩
 | succ m ih=>
   intro e st1 hm hf ha g0 g3 g4
   have hml:m<l.length:=by omega
   obtain⟨c,rfl⟩:=ha.form (by omega)
   have hdr:l.drop m=l[m]::l.drop (m+1):=List.drop_eq_getElem_cons hml
   have htk:l.take (m+1)=l.take m++[l[m]]:=List.take_succ_eq_append_getElem hml
   have hdm:=hd l[m] (List.getElem_mem hml)
   have hcr:=dbl_carry (l.drop (m+1)) (fun d h=>hd d (List.mem_of_mem_drop h))
   have hdb:dbl (l.drop m)=((2*l[m]+(dbl (l.drop (m+1))).1) / 10,(2*l[m]+(dbl (l.drop (m+1))).1) % 10::(dbl (l.drop (m+1))).2):=by rw[hdr];rfl
   generalize hcc:dbl (l.drop (m+1))=D at*
   generalize hdd:l[m]=d at*
   obtain⟨q,hq⟩:∃q,q=(2*d+D.1) % 10:=⟨_,rfl⟩
   obtain⟨r,hr⟩:∃r,r=(2*d+D.1) / 10:=⟨_,rfl⟩
   rw[←hq,←hr]at hdb
   have hlen0:(octs (l.take (m+1)++D.2)).length=l.length:=by
    rw[octs_len,List.length_append,←hcc,dbl_len];simp;omega
   have hrd:=ha.rd (o:=m) (by rw[hlen0];exact hml)
   have hval:(octs (l.take (m+1)++D.2))[m]? =some (.int .u8 (d:Int)):=by
    simp only[octs,List.getElem?_map]
    rw[List.getElem?_append_left (by simp;omega),htk,List.getElem?_append_right (by simp only[List.length_take];omega)]
    simp[Nat.min_eq_left (Nat.le_of_lt hml)]
   rw[hval]at hrd
   have hset:(octs (l.take (m+1)++D.2)).set m (.int .u8 (q:Int))=octs (l.take m++(dbl (l.drop m)).2):=by
    rw[hdb,htk]
    simp only[octs,List.map_append,List.map_cons,List.map_nil,List.append_assoc,List.singleton_append]
    rw[List.set_append_right _ _ (by simp only[List.length_map,List.length_take];omega)]
    simp[Nat.min_eq_left (Nat.le_of_lt hml)]
   obtain⟨h',w1,w2,w3⟩:=ha.store hf.wf (o:=m) (x:= .int .u8 (q:Int)) (by rw[hlen0];exact hml) rfl
   rw[hset]at w2
   have e1:IntKind.u8.wrap (2*(d:Int))=2*d:=wrap_u8 (by omega) (by omega)
   have e2:IntKind.u8.wrap (2*(d:Int)+D.1)=2*d+D.1:=wrap_u8 (by omega) (by omega)
   have e3:(2*(d:Int)+D.1).tmod 10=(q:Int):=by rw[Int.tmod_eq_emod_of_nonneg (by omega)];omega
   have e4:IntKind.u8.wrap ((2*(d:Int)+D.1).tdiv 10)=(r:Int):=by
    rw[Int.tdiv_eq_ediv_of_nonneg (by omega),wrap_u8 (by omega) (by omega)];omega
   have e5:IntKind.i64.wrap ((m:Int) - 1)=m - 1:=wrap64' (by omega) (by omega)
   have e6:((m:Int)+1 - 1)=m:=by omega
   rw[Int.natCast_add,Int.natCast_one,e6]at g4
   have hmi:(m:Int)<l.length:=by omega
   rw[run_loop]
   simp[B.real_double_l0,go_sem,g0,g3,g4,hmi,RO.run,WO.run,hrd,e1,e2,e3,e4,e5,w1]
   refine(ih _ ⟨h',st1.nx⟩ (by omega) (hf.trans w3 (by simp)) w2 ?_ ?_ ?_).mono fun x e' s' h=>h
   ·simp[go_sem]
   ·simp[go_sem,hdb]
   ·simp[go_sem]
theorem double_res (H:B.H_real_double T) (hwf:st.Wf) {v:AV} {l:List Nat} (hd:∀d∈l,d<10) (hll:l.length<9223372036854775807) (hv:Sl st v 5 1 l.length (octs l)):
  CRes (call T (.fn 116 [] []) [v] st) fun r s'=>r= .int .i64 (dbl l).1∧Frm v.nms st s'∧Sl s' v 5 1 (dbl l).2.length (octs (dbl l).2):=by
 refine call_res H.e H.f rfl ?_
 have hv0:=hv
 obtain⟨n,a⟩:=hv
 have hcr:=dbl_carry l hd
 have e1:IntKind.i64.wrap ((dbl l).1:Int)=(dbl l).1:=wrap64' (by omega) (by omega)
 have ew:IntKind.i64.wrap (-1)= -1:=wrap64' (by omega) (by omega)
 have ew0:IntKind.i64.wrap 0=0:=wrap64' (by omega) (by omega)
 cases l with
 | nil=>
   rcases hv0.view with ⟨rfl,_,_⟩ | ⟨n',c,rfl,_⟩
   ·simp[B.real_double,go_sem,ew]
    rw[run_loop]
    simp[B.real_double_l0,go_sem,dbl,ew0]
    exact⟨(Ext.refl hwf).dropLoc.fr _,Sl.nil _ _ _⟩
   ·simp[B.real_double,go_sem,ew]
    rw[run_loop]
    simp[B.real_double_l0,go_sem,dbl,ew0]
    exact⟨(Ext.refl hwf).dropLoc.fr _,hv0.dropLoc hwf⟩
 | cons d r=>
   obtain⟨c,rfl⟩:=a.form (by simp)
   have hlen:IntKind.i64.wrap ((r.length:Int)+1 - 1)=r.length:=by
    rw[Int.add_sub_cancel];exact wrap64' (by omega) (by simp at hll;omega)
   have hlen':IntKind.i64.wrap (r.length:Int)=r.length:=wrap64' (by omega) (by simp at hll;omega)
   simp[B.real_double,go_sem,hlen']
   refine(double_loop (v:= .slice n 0 (r.length+1) c) (n:=n) hd hll st (d::r).length _ st (Nat.le_refl _) (.refl hwf _) ?_ ?_ ?_ ?_).mono ?_
   ·simpa [dbl] using a
   ·simp[go_sem]
   ·simp[go_sem,dbl]
   ·simp[go_sem,hlen']
   ·rintro x e s' ⟨rfl,h1,h2,h3⟩
    simp[go_sem,h3,e1]
    have hn:(AV.slice n 0 (r.length+1) c).nms=[n]:=rfl
    simp only[List.length_cons]at h2
    refine⟨h1.dropLoc,?_⟩
    rw[dbl_len]
    exact Sl.dropLoc h1.wf ⟨n,h2⟩
def bitsF:Nat→Nat→List Nat→Nat×List Nat
 | 0,n,l=>(n,l)
 | k+1,n,l=>bitsF k (2*n+(dbl l).1) (dbl l).2
theorem bits_loop (H:B.H_real_double T) (st0:St) {v:AV} {neg:Bool}:∀(m:Nat) (n:Nat) (l:List Nat) (e:Env) (st1:St),m≤16→n+1≤2 ^ (48 - m)→(∀d∈l,d<10)→l.length<1000000000→Frm v.nms st0 st1→Sl st1 v 5 1 l.length (octs l)→
  eget e 5= .bool neg→eget e 9= .int .i64 n→eget e 10=v→eget e 39= .int .i64 (16 - (m:Int))→
  Res (run T (.loop B.real_Parse_l0) e st1) fun x e' s'=>x= .exit 0∧Frm v.nms st0 s'∧Sl s' v 5 1 (bitsF m n l).2.length (octs (bitsF m n l).2)∧eget e' 9= .int .i64 (bitsF m n l).1∧eget e' 5= .bool neg∧eget e' 10=v∧(∀d∈(bitsF m n l).2,d<10)∧(bitsF m n l).2.length=l.length:=by
 intro m
 induction m with
 | zero=>
   intro n l e st1 hm hn hd hll hf hv g5 g9 g10 g39
   rw[run_loop]
   simp[B.real_Parse_l0,go_sem,g5,g9,g10,g39,bitsF]
   exact⟨hf,hv,hd⟩
 | succ m ih=>
   intro n l e st1 hm hn hd hll hf hv g5 g9 g10 g39
   have hlt:(16:Int) - ((m+1:Nat):Int)<16:=by omega
   have hcr:=dbl_carry l hd
   have hpow:2 ^ (48 - (m+1))*2=2 ^ (48 - m):=by rw[←Nat.pow_succ];congr 1;omega
   have hpow2:2 ^ (48 - m)≤2 ^ 48:=Nat.pow_le_pow_right (by omega) (by omega)
   have hn2:2*n+(dbl l).1+1≤2 ^ (48 - m):=by omega
   have e1:IntKind.i64.wrap (2*(n:Int))=2*n:=wrap64' (by omega) (by omega)
   have e2:IntKind.i64.wrap (2*(n:Int)+(dbl l).1)=((2*n+(dbl l).1:Nat):Int):=by rw[wrap64' (by omega) (by omega)];omega
   have e3:IntKind.i64.wrap ((16:Int) - ((m:Int)+1)+1)=16 - m:=by rw[wrap64' (by omega) (by omega)];omega
   rw[run_loop]
   simp only[Int.natCast_add,Int.natCast_one]at hlt g39
   simp[B.real_Parse_l0,go_sem,g5,g9,g10,g39,hlt,e1]
   refine(double_res H hf.wf hd (by omega) hv).mono ?_
   rintro r s1 ⟨rfl,f1,h1⟩
   simp[go_sem,e2,e3]
   simp only[bitsF]
   have hd2:=dbl_lt l
   have hl2:=dbl_len l
   refine(ih (2*n+(dbl l).1) (dbl l).2 _ s1 (by omega) hn2 hd2 (by omega) (hf.trans f1 (fun n h=> .inl h)) h1 ?_ ?_ ?_ ?_).mono ?_
   ·simp[go_sem]
   ·simp[go_sem]
   ·simp[go_sem]
   ·simp[go_sem]
   ·rintro x e' s' ⟨rfl,a1,a2,a3,a4,a5,a6,a7⟩
    exact⟨rfl,a1,a2,a3,a4,a5,a6,by rw[a7,hl2]⟩
theorem more_loop {v:AV} {l:List Nat} (hll:l.length<1000000000) (st0:St) (hwf:st0.Wf) (hv:SlR st0.h v l) {neg half:Bool} {n:Int}:∀(m i:Nat) (mo:Bool) (e:Env),i+m=l.length→eget e 50=v→eget e 51= .int .i64 l.length→eget e 52= .int .i64 i→eget e 12= .bool mo→
   eget e 5= .bool neg→eget e 9= .int .i64 n→eget e 11= .bool half→
  Res (run T (.loop B.real_Parse_l1) e st0) fun x e' s'=>x= .exit 2∧s'=st0∧eget e' 12= .bool (mo || (l.drop i).any fun d=>decide (d≠0))∧eget e' 5= .bool neg∧eget e' 9= .int .i64 n∧eget e' 11= .bool half:=by
 intro m
 induction m with
 | zero=>
   intro i mo e hi g50 g51 g52 g12 g5 g9 g11
   have hil:i=l.length:=by omega
   subst hil
   rw[run_loop]
   simp[B.real_Parse_l1,go_sem,g50,g51,g52,g12,g5,g9,g11]
 | succ m ih=>
   intro i mo e hi g50 g51 g52 g12 g5 g9 g11
   have hil:i<l.length:=by omega
   have hil':(i:Int)<l.length:=by omega
   rcases hv with ⟨_,rfl⟩ | ⟨nn,c,rfl,hr⟩
   ·simp at hil
   have hri:=hr i hil
   have hdr:l.drop i=l.getD i 0::l.drop (i+1):=by rw[List.drop_eq_getElem_cons hil];simp[List.getElem?_eq_getElem hil]
   generalize l.getD i 0=d at hri hdr
   have e1:IntKind.i64.wrap ((i:Int)+1)=((i+1:Nat):Int):=wrap64' (by omega) (by omega)
   rw[run_loop,hdr]
   cases mo with
   | true=>
     simp[B.real_Parse_l1,go_sem,g50,g51,g52,g12,g5,g9,g11,hil',RO.run,hri]
     refine(ih (i+1) true _ (by omega) ?_ ?_ ?_ ?_ ?_ ?_ ?_).mono fun x e' s' h=>by simpa using h
     ·simp[go_sem]
     ·simp[go_sem]
     ·simp[go_sem,e1]
     ·simp[go_sem]
     ·simp[go_sem]
     ·simp[go_sem]
     ·simp[go_sem]
   | false=>
     simp[B.real_Parse_l1,go_sem,g50,g51,g52,g12,g5,g9,g11,hil',RO.run,hri]
     refine(ih (i+1) (decide (d≠0)) _ (by omega) ?_ ?_ ?_ ?_ ?_ ?_ ?_).mono fun x e' s' h=>by simpa using h
     ·simp[go_sem]
     ·simp[go_sem]
     ·simp[go_sem,e1]
     ·simp[go_sem]
     ·simp[go_sem]
     ·simp[go_sem]
     ·simp[go_sem]
end Go.Ev

/- real.Parse told. -/
namespace Go.Ev
open Go
variable {T : Tab} {st : St}
theorem sgn_len (s:List UInt8):(sgn s).2.length≤s.length:=by
 rw[(sgn_one s).1];simp
theorem decD_facts {s:List UInt8} {neg:Bool} {l:List Nat} {pt:Int} (h:decD s=some (neg,l,pt)):l.length≤s.length∧(∀d∈l,d<10)∧-1000≤pt∧pt≤s.length+1000:=by
 have hs:=sgn_len s
 have h1:=spanD_len (sgn s).2
 have d1:=spanD_lt (sgn s).2
 have hL:(decL s).length≤s.length∧∀d∈decL s,d<10:=by
  have h2:=spanD_len (spanD (sgn s).2).2.tail
  have d2:=spanD_lt (spanD (sgn s).2).2.tail
  simp only[List.length_tail]at h2
  unfold decL
  split
  ·refine⟨by simp;omega,fun d hd=> ?_⟩
   rcases List.mem_append.1 hd with hd | hd
   ·exact d1 d hd
   ·exact d2 d hd
  ·exact⟨by omega,d1⟩
 unfold decD at h
 split at h
 ·cases h
 ·split at h
  ·split at h
   ·cases h
   ·rename_i hbad
    split at h
    ·have hnb:numD (spanD (sgn (decR s).tail).2).1<1000:=by
      refine Nat.lt_of_lt_of_le (numD_lt (fun d hd=>spanD_lt _ d hd)) ?_
      exact Nat.le_trans (Nat.pow_le_pow_right (by omega) (show _≤3 by omega)) (by omega)
     simp only[Option.some.injEq,Prod.mk.injEq]at h
     obtain⟨_,rfl,rfl⟩:=h
     refine⟨hL.1,hL.2,?_,?_⟩ <;> split <;> omega
    ·cases h
  ·split at h
   ·simp only[Option.some.injEq,Prod.mk.injEq]at h
    obtain⟨_,rfl,rfl⟩:=h
    exact⟨hL.1,hL.2,by omega,by omega⟩
   ·cases h
def valS (neg:Bool) (l:List Nat) (pt:Int):Option Int:=
 if 2147483648<frontF 0 (intD l pt)then none else
 let b:=bitsF 16 (frontF 0 (intD l pt)) (fracD l pt)
 let n:=if(dbl b.2).1=1∧(neg=false∨((dbl b.2).2.any fun d=>decide (d≠0))=true)then b.1+1 else b.1
 let v:Int:=if neg=true then -(n:Int)else n
 if -2147483648≤v∧v≤2147483648 then some v else none
def parseS (s:List UInt8):Int×Int:=
 if 40<s.length then(0,3)else
 match decD s with
 | none=>(0,5)
 | some (neg,l,pt)=>match valS neg l pt with | some v=>(v,0) | none=>(0,6)
theorem bitsF_lt:∀(m n:Nat) (l:List Nat),(∀d∈l,d<10)→(bitsF m n l).1+1≤(n+1)*2 ^ m
 | 0,n,l,_=>by simp[bitsF]
 | m+1,n,l,h=>by
   have:=dbl_carry l h
   have ih:=bitsF_lt m (2*n+(dbl l).1) (dbl l).2 (dbl_lt l)
   simp only[bitsF]
   refine Nat.le_trans ih ?_
   rw[Nat.pow_succ,Nat.mul_comm (2 ^ m) 2,←Nat.mul_assoc]
   exact Nat.mul_le_mul_right _ (by omega)
theorem wrapN {n:Nat} (h:n+1≤140737488420864):IntKind.i64.wrap ((n:Int)+1)=n+1∧IntKind.i64.wrap (-(n:Int))= -n∧IntKind.i64.wrap (-((n:Int)+1))= -(n+1)∧IntKind.i64.wrap (-1+ -(n:Int))= -(n+1):=by
 obtain⟨M,hM⟩:∃M:Int,M=140737488420864:=⟨_,rfl⟩
 have h1:(n:Int)+1≤M:=by omega
 have a: -9223372036854775808≤-M:=by rw[hM];decide
 have b:M≤9223372036854775807:=by rw[hM];decide
 have c: -9223372036854775808≤(0:Int):=by decide
 clear hM h
 refine⟨wrap64' (Int.le_trans c (by omega)) (Int.le_trans h1 b),wrap64' (Int.le_trans a (by omega)) (Int.le_trans (show -(n:Int)≤M by omega) b),wrap64' (Int.le_trans a (by omega)) (Int.le_trans (show -((n:Int)+1)≤M by omega) b),?_⟩
 rw[show -1+ -(n:Int)= -((n:Int)+1)by omega]
 exact wrap64' (Int.le_trans a (by omega)) (Int.le_trans (show -((n:Int)+1)≤M by omega) b)
theorem parse_tells (H:B.H_real_Parse T) (hwf:st.Wf) {s:List UInt8}:Tells T st (.fn 100 [] []) [.str s] (.tuple [.int .i64 (parseS s).1,.int .i64 (parseS s).2]):=by
 refine tells_of H.e H.f rfl ?_
 by_cases hlong:40<s.length
 ·have hlong':(40:Int)<s.length:=by omega
  simp[B.real_Parse,go_sem,hlong,hlong',parseS,Ext.refl hwf]
 have hlong':¬(40:Int)<s.length:=by omega
 have hx:=Ext.new hwf (.cells 187 false [.str s,.int .i64 0])
 have hq:ScnAt ⟨(st.nx,.cells 187 false [.str s,.int .i64 0])::st.h,st.nx+1⟩ st.nx s 0:=by simp[ScnAt,hget_cons]
 have hps:parseS s=(match decD s with | none=>(0,5) | some (neg,l,pt)=>match valS neg l pt with | some v=>(v,0) | none=>(0,6)):=by simp only[parseS,if_neg hlong]
 simp[B.real_Parse,go_sem,hlong',NO.run]
 refine(decimal_res H.real_scanner_decimal hx.wf (by omega) hq).mono ?_
 rintro v1 s1 ⟨f1,ho⟩
 have x1:Ext st s1:=hx.frm f1 (by simp)
 cases hdec:decD s with
 | none=>
   rw[hdec]at ho hps
   obtain⟨a,b,c,rfl⟩:=ho
   simp[go_sem,hps,x1]
 | some o=>
   obtain⟨neg,l,pt⟩:=o
   rw[hdec]at ho hps
   obtain⟨sv,rfl,hl,hm⟩:=ho
   obtain⟨k1,k2,k3,k4⟩:=decD_facts hdec
   have hgd:∀i,l.getD i 0<10:=fun i=>by
    rw[List.getD_eq_getElem?_getD]
    cases h:l[i]? with
    | none=>simp
    | some d=>exact k2 d (List.mem_of_getElem? h)
   simp only at hps
   simp[go_sem]
   refine(front_tells H.real_front f1.wf hgd (by omega) (by omega) hl.slR).use fun s2 hs2=> ?_
   have hl2:=hl.ext hs2 f1.wf
   simp[go_sem]
   refine(fraction_res H.real_fraction hs2.wf (by omega) (by omega) hl2.slR).mono ?_
   rintro v2 s3 ⟨x3,hf,hm2,hnk2⟩
   have x13:=(x1.trans hs2).trans x3
   have hge:∀n∈v2.nms,st.nx≤n:=fun n hn=>by
    rcases hm2 n hn with h | h
    ·cases h
    ·exact Nat.le_trans (x1.trans hs2).nx h
   by_cases hbig:2147483648<frontF 0 (intD l pt)
   ·have hbig':(2147483648:Int)<frontF 0 (intD l pt):=by omega
    have:valS neg l pt=none:=by simp only[valS,if_pos hbig]
    rw[this]at hps
    simp[go_sem,hbig',hps,x13]
   have hbig':¬(2147483648:Int)<frontF 0 (intD l pt):=by omega
   simp[go_sem,hbig']
   have hfd:∀d∈fracD l pt,d<10:=fun d hd=>by
    unfold fracD at hd
    rcases List.mem_append.1 hd with hd | hd
    ·have:=List.eq_of_mem_replicate hd;omega
    ·exact k2 d (List.mem_of_mem_drop hd)
   have hfl:(fracD l pt).length<10000:=by simp[fracD];omega
   have hval:valS neg l pt=(let b:=bitsF 16 (frontF 0 (intD l pt)) (fracD l pt)
    let n:=if(dbl b.2).1=1∧(neg=false∨((dbl b.2).2.any fun d=>decide (d≠0))=true)then b.1+1 else b.1
    let v:Int:=if neg=true then -(n:Int)else n
    if -2147483648≤v∧v≤2147483648 then some v else none):=by simp only[valS,if_neg hbig]
   have hb16:=bitsF_lt 16 (frontF 0 (intD l pt)) (fracD l pt) hfd
   refine(bits_loop H.real_double s3 (v:=v2) (neg:=neg) 16 (frontF 0 (intD l pt)) (fracD l pt) _ s3 (by omega) (by omega) hfd (by omega) (.refl x3.wf _) hf ?_ ?_ ?_ ?_).mono ?_
   ·simp[go_sem]
   ·simp[go_sem]
   ·simp[go_sem]
   ·simp[go_sem]
   rintro x e4 s4 ⟨rfl,f4,h4,g9,g5,g10,hd4,hl4⟩
   generalize hB:bitsF 16 (frontF 0 (intD l pt)) (fracD l pt)=b at*
   simp[go_sem,g5,g9,g10]
   refine(double_res H.real_double f4.wf hd4 (by omega) h4).mono ?_
   rintro r s5 ⟨rfl,f5,h5⟩
   have x15:Ext st s5:=(x13.frm f4 hge).frm f5 hge
   have hlen5:=h5.lenOf (ev:=fun _=>v2) (x:= .t 0) rfl
   simp[PO.run]at hlen5
   have hbl:(dbl b.2).2.length<10000:=by rw[dbl_len];omega
   simp[go_sem,hlen5]
   refine(more_loop (v:=v2) (l:=(dbl b.2).2) (by omega) s5 f5.wf h5.slR (neg:=neg) (half:=decide (((dbl b.2).1:Int)=1)) (n:=b.1) (dbl b.2).2.length 0 false _ (by simp) ?_ ?_ ?_ ?_ ?_ ?_ ?_).mono ?_
   ·simp[go_sem]
   ·simp[go_sem]
   ·simp[go_sem]
   ·simp[go_sem]
   ·simp[go_sem]
   ·simp[go_sem]
   ·simp[go_sem]
   rintro x e6 s6 ⟨rfl,rfl,u12,u5,u9,u11⟩
   simp only[Bool.false_or,List.drop_zero]at u12
   simp only at hval
   generalize hM:((dbl b.2).2.any fun d=>decide (d≠0))=mo at u12 hval
   generalize hC:(dbl b.2).1=c at u11 hval
   obtain⟨bn,hbn⟩:∃bn,bn=b.1:=⟨_,rfl⟩
   rw[←hbn]at u9 hval hb16
   have hbn2:bn+1≤140737488420864:=Nat.le_trans hb16 (Nat.le_trans (Nat.mul_le_mul (show frontF 0 (intD l pt)+1≤2147483649 by omega) (Nat.le_refl (2 ^ 16))) (by decide))
   clear hb16
   have fin:∀(V:Int),valS neg l pt=(if -2147483648≤V∧V≤2147483648 then some V else none)→∃bv:Bool,Tells T s6 (.fn 110 [] []) [.int .i64 V] (.bool bv)∧((bv=true∧parseS s=(V,0))∨(bv=false∧parseS s=(0,6))):=by
    intro V hV
    refine⟨_,realIs_tells H.real_Is f5.wf,?_⟩
    by_cases hr: -2147483648≤V∧V≤2147483648
    ·left
     rw[if_pos hr]at hV
     rw[hV]at hps
     exact⟨by simp[hr.1,hr.2],hps⟩
    ·right
     rw[if_neg hr]at hV
     rw[hV]at hps
     refine⟨?_,hps⟩
     rw[←Bool.not_eq_true]
     simpa using hr
   obtain⟨w1,w2,w3,w4⟩:=wrapN hbn2
   clear hbn2
   cases neg <;> cases mo <;> by_cases hc1:c=1
   all_goals
    try have hc2:(c:Int)=1:=by omega
    try have hc2:¬(c:Int)=1:=by omega
    simp[go_sem,u12,u5,u9,u11,hc1,hc2,w1,w2,w3,w4]
    obtain⟨bv,g1,g2⟩:=fin _ hval
    simp[hc1]at g1 g2
    refine CRes.mono g1 ?_
    rintro v7 s7 ⟨rfl,hs7⟩
    have x17:=x15.trans hs7
    rcases g2 with ⟨g2,g3⟩ | ⟨g2,g3⟩
    ·simp[go_sem,g2,g3,x17]
    ·simp[go_sem,g2,g3,x17]
end Go.Ev

/- strings.ContainsAny with ASCII characters, for any text. -/
namespace Go.Ev
open Go
variable {T : Tab} {st : St}
def ascii (l:List UInt8):Prop:=∀c∈l,c.toNat<128
theorem rune_low {s:List UInt8} {p:Nat} {c:UInt8} (hc:s[p]? =some c) (h:c.toNat<128):runeAt s p=(c.toNat,1):=by
 have hlt:=(List.getElem?_eq_some_iff.1 hc).1
 have he:=(List.getElem?_eq_some_iff.1 hc).2
 have hs:p<(⟨s.toArray⟩:ByteArray).size:=by simpa [ByteArray.size] using hlt
 have hb:((⟨s.toArray⟩:ByteArray)[p]'hs)=c:=by rw[←he];rfl
 have:=decode_ascii ⟨s.toArray⟩ p hs (by rw[hb];exact h)
 rw[hb]at this
 exact this
theorem get_bang {s:List UInt8} {k:Nat} (h:k<s.length):(⟨s.toArray⟩:ByteArray).get! k=s[k]:=by
 simp[ByteArray.get!,h]
theorem rune_high {s:List UInt8} {p:Nat} {c:UInt8} (hc:s[p]? =some c) (h:128≤c.toNat):
  128≤(runeAt s p).1∧(runeAt s p).1≤2147483647∧1≤(runeAt s p).2∧p+(runeAt s p).2≤s.length∧∀j,j<(runeAt s p).2→∀d,s[p+j]? =some d→128≤d.toNat:=by
 have hlt:=(List.getElem?_eq_some_iff.1 hc).1
 have he:=(List.getElem?_eq_some_iff.1 hc).2
 have hs:p<(⟨s.toArray⟩:ByteArray).size:=by simpa [ByteArray.size] using hlt
 have hb:((⟨s.toArray⟩:ByteArray)[p]'hs)=c:=by rw[←he];rfl
 have h1:=decode_high ⟨s.toArray⟩ p hs (by rw[hb];exact h)
 have h2:=decode_le ⟨s.toArray⟩ p
 have hsz:(⟨s.toArray⟩:ByteArray).size=s.length:=by simp[ByteArray.size]
 have hcont:∀k,p+k<s.length→((⟨s.toArray⟩:ByteArray).get! (p+k)).toNat / 64=2→∀d,s[p+k]? =some d→128≤d.toNat:=by
  intro k hk hq d hd
  rw[get_bang hk]at hq
  have:s[p+k]=d:=(List.getElem?_eq_some_iff.1 hd).2
  rw[this]at hq
  omega
 have h0:∀d,s[p+0]? =some d→128≤d.toNat:=fun d hd=>by
  rw[Nat.add_zero,hc]at hd
  cases hd
  exact h
 refine⟨h1.1,h2,h1.2,?_⟩
 have hg0:(⟨s.toArray⟩:ByteArray).get! (p+0)=c:=by rw[Nat.add_zero,get_bang hlt,he]
 unfold runeAt Utf8.decode
 simp only[hg0,hsz]
 have hn:¬c.toNat<128:=by omega
 rw[if_neg hn]
 have one:p+1≤s.length∧∀j,j<1→∀d,s[p+j]? =some d→128≤d.toNat:=⟨by omega,fun j hj=>by rw[show j=0 by omega];exact h0⟩
 split
 ·rename_i hq
  simp only[Bool.and_eq_true,decide_eq_true_eq,beq_iff_eq]at hq
  split
  ·refine⟨by simp only;omega,fun j hj d hd=> ?_⟩
   simp only at hj
   rcases(show j=0∨j=1 by omega)with rfl | rfl
   ·exact h0 d hd
   ·exact hcont 1 hq.2.1 hq.2.2 d hd
  ·exact one
 ·split
  ·rename_i hq
   simp only[Bool.and_eq_true,decide_eq_true_eq,beq_iff_eq]at hq
   split
   ·refine⟨by simp only;omega,fun j hj d hd=> ?_⟩
    simp only at hj
    rcases(show j=0∨j=1∨j=2 by omega)with rfl | rfl | rfl
    ·exact h0 d hd
    ·exact hcont 1 hq.1.2.1 hq.1.2.2 d hd
    ·exact hcont 2 hq.2.1 hq.2.2 d hd
   ·exact one
  ·split
   ·rename_i hq
    simp only[Bool.and_eq_true,decide_eq_true_eq,beq_iff_eq]at hq
    split
    ·refine⟨by simp only;omega,fun j hj d hd=> ?_⟩
     simp only at hj
     rcases(show j=0∨j=1∨j=2∨j=3 by omega)with rfl | rfl | rfl | rfl
     ·exact h0 d hd
     ·exact hcont 1 hq.1.1.2.1 hq.1.1.2.2 d hd
     ·exact hcont 2 hq.1.2.1 hq.1.2.2 d hd
     ·exact hcont 3 hq.2.1 hq.2.2 d hd
    ·exact one
   ·exact one
theorem runeStr_high {r:Int} (h:128≤r):2≤(runeStr r).length∧(runeStr r).length≤4∧∀c∈runeStr r,128≤c.toNat:=by
 have hmod:∀n:Nat,n<256→(UInt8.ofNat n).toNat=n:=fun n hn=>by rw[UInt8.toNat_ofNat',Nat.mod_eq_of_lt hn]
 unfold runeStr Utf8.encode
 simp only
 have hc:∃c:Nat,(if Utf8.valid r=true then r.toNat else Utf8.runeError)=c∧128≤c∧c≤1114111:=by
  refine⟨_,rfl,?_⟩
  split
  ·rename_i hv
   simp only[Utf8.valid,Bool.or_eq_true,Bool.and_eq_true,decide_eq_true_eq]at hv
   omega
  ·simp[Utf8.runeError]
 obtain⟨c,hc,h1,h2⟩:=hc
 rw[hc,if_neg (by omega)]
 split
 ·refine⟨by simp,by simp,fun d hd=> ?_⟩
  simp only[List.mem_cons,List.not_mem_nil,or_false]at hd
  rcases hd with rfl | rfl
  ·rw[hmod _ (by omega)];omega
  ·rw[hmod _ (by omega)];omega
 ·split
  ·refine⟨by simp,by simp,fun d hd=> ?_⟩
   simp only[List.mem_cons,List.not_mem_nil,or_false]at hd
   rcases hd with rfl | rfl | rfl
   ·rw[hmod _ (by omega)];omega
   ·rw[hmod _ (by omega)];omega
   ·rw[hmod _ (by omega)];omega
  ·refine⟨by simp,by simp,fun d hd=> ?_⟩
   simp only[List.mem_cons,List.not_mem_nil,or_false]at hd
   rcases hd with rfl | rfl | rfl | rfl
   ·rw[hmod _ (by omega)];omega
   ·rw[hmod _ (by omega)];omega
   ·rw[hmod _ (by omega)];omega
   ·rw[hmod _ (by omega)];omega
theorem indexByte_mem:∀(l:List UInt8) (c:UInt8),0≤Lib.indexByte l c↔c∈l
 | [],c=>by simp[Lib.indexByte]
 | b::l,c=>by
   have ih:=indexByte_mem l c
   have hge:=Lib.indexByte_ge l c
   simp only[Lib.indexByte,List.mem_cons]
   by_cases hbc:b=c
   ·subst hbc;simp
   ·rw[if_neg (by simpa using hbc)]
    have hcb:¬c=b:=fun e=>hbc e.symm
    split
    ·rename_i h
     have:Lib.indexByte l c= -1:=by simpa using h
     simp only[hcb,false_or]
     rw[←ih]
     omega
    ·rename_i h
     have:¬Lib.indexByte l c= -1:=by simpa using h
     simp only[hcb,false_or]
     rw[←ih]
     omega
theorem validRune_tells (H:B.H_unicode_utf8_ValidRune T) (hwf:st.Wf) {r:Int} (h0:0≤r):∃b,Tells T st (.fn 147 [] []) [.int .i32 r] (.bool b):=by
 by_cases h1:r<55296
 ·exact⟨true,by refine tells_of H.e H.f rfl ?_;simp[B.unicode_utf8_ValidRune,go_sem,h0,h1,Ext.refl hwf]⟩
 ·by_cases h2:57343<r
  ·by_cases h3:r≤1114111
   ·exact⟨true,by refine tells_of H.e H.f rfl ?_;simp[B.unicode_utf8_ValidRune,go_sem,h0,h1,h2,h3,Ext.refl hwf]⟩
   ·exact⟨false,by refine tells_of H.e H.f rfl ?_;simp[B.unicode_utf8_ValidRune,go_sem,h0,h1,h2,h3,Ext.refl hwf]⟩
  ·exact⟨false,by refine tells_of H.e H.f rfl ?_;simp[B.unicode_utf8_ValidRune,go_sem,h0,h1,h2,Ext.refl hwf]⟩
theorem runeloop {chars:List UInt8} (ha:ascii chars) (hlen:chars.length<1000000000) (st0:St) {q:Nat}:∀(m p:Nat) (e:Env) (st1:St),p+m=chars.length→Frm [q] st0 st1→hget st1.h q=some (.iter chars p)→eget e 175= .ptr q 0→
  Res (run T (.loop B.strings_IndexRune_l0) e st1) fun x e' s'=>x= .exit 9∧Frm [q] st0 s':=by
 intro m
 induction m with
 | zero=>
   intro p e st1 hi hf hq g
   have hp:¬p<chars.length:=by omega
   rw[run_loop]
   simp[B.strings_IndexRune_l0,go_sem,g,WO.run,hq,hp,hf]
 | succ m ih=>
   intro p e st1 hi hf hq g
   have hp:p<chars.length:=by omega
   obtain⟨c,hc,_⟩:=idx_some hp
   have hc128:=ha c (List.mem_of_getElem? hc)
   have hr:=rune_low hc hc128
   have hne:¬(c.toNat:Int)=65533:=by omega
   rw[run_loop]
   simp[B.strings_IndexRune_l0,go_sem,g,WO.run,hq,hp,hr,hne]
   refine(ih (p+1) _ ⟨_,st1.nx⟩ (by omega) (hf.trans (Frm.set hf.wf hq) (by simp)) (hget_hset_self hq) ?_).mono fun x e' s' h=>h
   simp[go_sem]
theorem indexRune_high (H:B.H_strings_IndexRune T) (hwf:st.Wf) {chars:List UInt8} (ha:ascii chars) (hlen:chars.length<1000000000) {r:Int} (h1:128≤r):Tells T st (.fn 143 [] []) [.str chars,.int .i32 r] (.int .i64 (-1)):=by
 refine tells_of H.e H.f rfl ?_
 have n1:¬r<128:=by omega
 have n0:0≤r:=by omega
 by_cases hre:r=65533
 ·subst hre
  have hx:=Ext.new hwf (.iter chars 0)
  simp[B.strings_IndexRune,go_sem,NO.run]
  refine(runeloop (T:=T) ha hlen ⟨(st.nx,.iter chars 0)::st.h,st.nx+1⟩ (q:=st.nx) chars.length 0 _ _ (by simp) (.refl hx.wf _) (by simp[hget_cons]) ?_).mono ?_
  ·simp[go_sem]
  ·rintro x e s' ⟨rfl,h⟩
   simp[go_sem]
   exact hx.frm h (by simp)
 ·simp[B.strings_IndexRune,go_sem,n1,n0,hre]
  obtain⟨b,hb⟩:=validRune_tells H.unicode_utf8_ValidRune hwf n0
  refine hb.use fun s1 hs1=> ?_
  cases b with
  | false=>simp[go_sem,hs1]
  | true=>
    obtain⟨l1,l2,l3⟩:=runeStr_high h1
    generalize hR:runeStr r=R at l1 l2 l3
    have hlast:∃c,R[R.length - 1]? =some c∧128≤c.toNat:=by
     have:R.length - 1<R.length:=by omega
     exact⟨R[R.length - 1],List.getElem?_eq_getElem this,l3 _ (List.getElem_mem this)⟩
    obtain⟨c,hc,hc128⟩:=hlast
    have e1:IntKind.i64.wrap ((R.length:Int) - 1)=R.length - 1:=wrap64' (by omega) (by omega)
    have e2:((R.length:Int) - 1).toNat=R.length - 1:=by omega
    have e3:(0:Int)≤(R.length:Int) - 1:=by omega
    have e6:(1:Int)≤(R.length:Int):=by omega
    simp[go_sem,hR,e1]
    rw[run_loop]
    by_cases hlt:(R.length:Int) - 1<chars.length
    ·obtain⟨d,hd,_⟩:=idx_some (s:=chars) (i:=R.length - 1) (by omega)
     have hd128:=ha d (List.mem_of_getElem? hd)
     have hne:¬(d.toNat:Int)=c.toNat:=by omega
     have hne':¬d.toNat=c.toNat:=by omega
     have hsub:=asubS_from (s:=chars) (i:=(R.length:Int) - 1+1) (k:= .i64) (by omega) (by omega)
     have e4:IntKind.i64.wrap ((R.length:Int) - 1+1)=R.length - 1+1:=wrap64' (by omega) (by omega)
     have e5:((R.length:Int) - 1+1)=R.length:=by omega
     rw[e5]at hsub e4
     have hcall:=fun st=>indexByte_call (st:=st) H.strings_IndexByte (s:=chars.drop R.length) (c:=c.toNat)
     have hnone:Lib.indexByte (chars.drop R.length) c<0:=by
      rw[←Int.not_le,indexByte_mem]
      intro hmem
      have:=ha c (List.mem_of_mem_drop hmem)
      omega
     have hx1:=Ext.aside hs1.wf 7
     have hx2:=Ext.aside hx1.wf 9
     simp at hx2
     have w0:IntKind.i64.wrap (R.length:Int)=R.length:=wrap64' (by omega) (by omega)
     have t0:(R.length:Int).toNat=R.length:=by omega
     rw[t0]at hsub
     simp[B.strings_IndexRune_l2,go_sem,hlt,hd,hc,hne,hne',e2,e3,e4,e5,e6,w0,hsub,hcall,hnone]
     exact hs1.trans (hx1.trans hx2)
    ·simp[B.strings_IndexRune_l2,go_sem,hlt,hs1]
theorem indexRune_low (H:B.H_strings_IndexRune T) (hwf:st.Wf) {chars:List UInt8} {c:UInt8} (hc:c.toNat<128):Tells T st (.fn 143 [] []) [.str chars,.int .i32 c.toNat] (.int .i64 (Lib.indexByte chars c)):=by
 refine tells_of H.e H.f rfl ?_
 have h1:(c.toNat:Int)<128:=by omega
 have hw:IntKind.u8.wrap (c.toNat:Int)=c.toNat:=wrap_u8 (by omega) (by omega)
 have hcall:=fun st=>indexByte_call (st:=st) H.strings_IndexByte (s:=chars) (c:=c.toNat)
 simp[B.strings_IndexRune,go_sem,h1,hw,hcall,Ext.refl hwf]
end Go.Ev

/- strings.ContainsAny told. -/
namespace Go.Ev
open Go
variable {T : Tab} {st : St}
def setC (l:List UInt8):List AV:=(List.range 256).map fun i=> .bool (decide (UInt8.ofNat i∈l))
theorem setC_len (l:List UInt8):(setC l).length=256:=by simp[setC]
theorem setC_nil:List.replicate 256 (AV.bool false)=setC []:=by
 apply List.ext_getElem?
 intro i
 simp only[setC,List.getElem?_map]
 by_cases hi:i<256
 ·rw[List.getElem?_replicate,if_pos hi,List.getElem?_range hi]
  simp
 ·rw[List.getElem?_replicate,if_neg hi,List.getElem?_eq_none (by simp;omega)]
  rfl
theorem setC_get (l:List UInt8) (c:UInt8):(setC l)[c.toNat]? =some (.bool (decide (c∈l))):=by
 have:=c.toNat_lt
 simp only[setC,List.getElem?_map]
 rw[List.getElem?_range (by omega)]
 simp
theorem setC_snoc (l:List UInt8) (c:UInt8):(setC l).set c.toNat (.bool true)=setC (l++[c]):=by
 apply List.ext_getElem?
 intro i
 by_cases hi:i<256
 ·have h1:∀l,(setC l)[i]? =some (.bool (decide (UInt8.ofNat i∈l))):=fun l=>by
   have:=setC_get l (UInt8.ofNat i)
   rwa[UInt8.toNat_ofNat',Nat.mod_eq_of_lt (by omega)]at this
  rw[List.getElem?_set,h1,h1]
  by_cases hc:c.toNat=i
  ·subst hc
   simp[setC_len,hi]
  ·rw[if_neg hc]
   have:¬UInt8.ofNat i=c:=fun e=>hc (by rw[←e,UInt8.toNat_ofNat',Nat.mod_eq_of_lt (by omega)])
   simp[this]
 ·rw[List.getElem?_eq_none (by simp[setC_len];omega),List.getElem?_eq_none (by simp[setC_len];omega)]
theorem setC_sc (l:List UInt8):(setC l).all AV.sc=true:=by simp[setC,AV.sc]
theorem make_loop {chars:List UInt8} (ha:ascii chars) (hlen:chars.length<1000000000) (st0:St) {q:Nat}:∀(m i:Nat) (e:Env) (st1:St),i+m=chars.length→Frm [q] st0 st1→hget st1.h q=some (.cells 197 true (setC (chars.take i)))→
  eget e 0= .str chars→eget e 2= .ptr q 0→eget e 4= .int .i64 i→
  Res (run T (.loop B.strings_makeASCIISet_l0) e st1) fun x e' s'=>x= .exit 0∧Frm [q] st0 s'∧hget s'.h q=some (.cells 197 true (setC chars))∧eget e' 2= .ptr q 0:=by
 intro m
 induction m with
 | zero=>
   intro i e st1 hi hf hq g0 g2 g4
   have hil:i=chars.length:=by omega
   subst hil
   rw[List.take_length]at hq
   rw[run_loop]
   simp[B.strings_makeASCIISet_l0,go_sem,g0,g2,g4]
   exact⟨hf,hq⟩
 | succ m ih=>
   intro i e st1 hi hf hq g0 g2 g4
   have hil:i<chars.length:=by omega
   have hil':(i:Int)<chars.length:=by omega
   obtain⟨c,hc,_⟩:=idx_some hil
   have hc128:=ha c (List.mem_of_getElem? hc)
   have hn:¬(128:Int)≤c.toNat:=by omega
   have hlt:(c.toNat:Int)<256:=by omega
   have hw:=wr_cells hq (v:= .bool true) rfl (o:=c.toNat) (by rw[setC_len];omega)
   have htk:chars.take (i+1)=chars.take i++[c]:=by
    rw[List.take_succ_eq_append_getElem hil,(List.getElem?_eq_some_iff.1 hc).2]
   rw[setC_snoc,←htk]at hw
   have e1:IntKind.i64.wrap ((i:Int)+1)=((i+1:Nat):Int):=wrap64' (by omega) (by omega)
   rw[run_loop]
   simp[B.strings_makeASCIISet_l0,go_sem,g0,g2,g4,hil',hc,hn,hlt,WO.run,hw]
   refine(ih (i+1) _ ⟨_,st1.nx⟩ (by omega) (hf.trans (Frm.set hf.wf hq) (by simp)) (hget_hset_self hq) ?_ ?_ ?_).mono fun x e' s' h=>h
   ·simp[go_sem]
   ·simp[go_sem]
   ·simp[go_sem,e1]
theorem makeSet_tells (H:B.H_strings_makeASCIISet T) (hwf:st.Wf) {chars:List UInt8} (ha:ascii chars) (hlen:chars.length<1000000000):Tells T st (.fn 145 [] []) [.str chars] (.tuple [.agg (setC chars),.bool true]):=by
 refine tells_of H.e H.f rfl ?_
 have hx:=Ext.new hwf (.cells 197 true (setC []))
 have h0:List.replicate 256 (AV.bool false)=setC []:=setC_nil
 simp only[B.strings_makeASCIISet,h0]
 simp[go_sem,NO.run]
 refine(make_loop (T:=T) ha hlen ⟨(st.nx,.cells 197 true (setC []))::st.h,st.nx+1⟩ (q:=st.nx) chars.length 0 _ _ (by simp) (.refl hx.wf _) (by simp[hget_cons]) ?_ ?_ ?_).mono ?_
 ·simp[go_sem]
 ·simp[go_sem]
 ·simp[go_sem]
 ·rintro x e s' ⟨rfl,f1,g1,g2⟩
  have hr:=rd_all g1 (k:=256) (setC_len _)
  have hw:=wr_all g1 (vs:=setC chars) rfl (setC_sc _)
  have hg:=hget_hset_self g1 (o:= .cells 197 true (setC chars))
  simp[go_sem,g2,RO.run,WO.run,hr,setC_len,hw,fresults,resVals,resVal,rd_all hg (k:=256) (setC_len _)]
  exact hx.frm (f1.trans (Frm.set f1.wf g1) (by simp)) (by simp)
theorem contains_tells (H:B.H_strings_asciiSet_contains T) (hwf:st.Wf) {q:Nat} {b:Bool} {chars:List UInt8} (hq:hget st.h q=some (.cells 197 b (setC chars))) (c:UInt8):Tells T st (.fn 146 [] []) [.ptr q 0,.int .u8 c.toNat] (.bool (decide (c∈chars))):=by
 refine tells_of H.e H.f rfl ?_
 have hlt:(c.toNat:Int)<256:=by have:=c.toNat_lt;omega
 have hr:rdCell st.h q c.toNat=some (.bool (decide (c∈chars))):=by simp[rdCell,hq,setC_get]
 simp[B.strings_asciiSet_contains,go_sem,hlt,RO.run,hr,Ext.refl hwf]
def anyOf (chars s:List UInt8):Bool:=s.any fun c=>decide (c∈chars)
theorem long_loop (H:B.H_strings_asciiSet_contains T) {s chars:List UInt8} (hlen:s.length<9223372036854775807) {q:Nat} {b:Bool} (st0:St) (hq0:hget st0.h q=some (.cells 197 b (setC chars))) (hw0:st0.Wf):∀(m i:Nat) (e:Env) (st1:St),i+m=s.length→Ext st0 st1→
  eget e 0= .str s→eget e 6= .ptr q 0→eget e 8= .int .i64 i→
  Res (run T (.loop B.strings_IndexAny_l0) e st1) fun x e' s'=>Ext st0 s'∧((x= .exit 0∧anyOf chars (s.drop i)=false)∨(x= .ret∧anyOf chars (s.drop i)=true∧∃j:Nat,eget e' 4= .int .i64 j)):=by
 intro m
 induction m with
 | zero=>
   intro i e st1 hi hx g0 g6 g8
   have hil:i=s.length:=by omega
   subst hil
   rw[run_loop]
   simp[B.strings_IndexAny_l0,go_sem,g0,g6,g8,hx,anyOf]
 | succ m ih=>
   intro i e st1 hi hx g0 g6 g8
   have hil:i<s.length:=by omega
   have hil':(i:Int)<s.length:=by omega
   obtain⟨c,hc,hd⟩:=idx_some hil
   have hcall:=contains_tells H hx.wf (hx.get hw0 hq0) c
   have e1:IntKind.i64.wrap ((i:Int)+1)=((i+1:Nat):Int):=wrap64' (by omega) (by omega)
   rw[run_loop]
   simp[B.strings_IndexAny_l0,go_sem,g0,g6,g8,hil',hc]
   refine hcall.use fun s1 hs1=> ?_
   by_cases hin:c∈chars
   ·simp[go_sem,hin,hd,anyOf,hx.trans hs1]
    exact⟨i,rfl⟩
   ·have hany:anyOf chars (s.drop i)=anyOf chars (s.drop (i+1)):=by rw[hd];simp[anyOf,hin]
    simp only[hany]
    simp[go_sem,hin]
    refine(ih (i+1) _ s1 (by omega) (hx.trans hs1) ?_ ?_ ?_).mono fun x e' s' h=>h
    ·simp[go_sem]
    ·simp[go_sem]
    ·simp[go_sem,e1]
theorem short_loop (H:B.H_strings_IndexRune T) {s chars:List UInt8} (ha:ascii chars) (hcl:chars.length<1000000000) (hlen:s.length<9223372036854775807) (st0:St) {q:Nat}:∀(m p:Nat) (e:Env) (st1:St),s.length≤p+m→p≤s.length→Frm [q] st0 st1→hget st1.h q=some (.iter s p)→
  eget e 1= .str chars→eget e 45= .ptr q 0→
  Res (run T (.loop B.strings_IndexAny_l1) e st1) fun x e' s'=>Frm [q] st0 s'∧((x= .exit 2∧anyOf chars (s.drop p)=false)∨(x= .ret∧anyOf chars (s.drop p)=true∧∃j:Nat,eget e' 4= .int .i64 j)):=by
 intro m
 induction m with
 | zero=>
   intro p e st1 hi hple hf hq g1 g45
   have hp:¬p<s.length:=by omega
   rw[run_loop,List.drop_of_length_le (by omega)]
   simp[B.strings_IndexAny_l1,go_sem,g1,g45,WO.run,hq,hp,hf,anyOf]
 | succ m ih=>
   intro p e st1 hi hple hf hq g1 g45
   by_cases hp:p<s.length
   ·obtain⟨c,hc,hd⟩:=idx_some hp
    rw[run_loop]
    by_cases h128:c.toNat<128
    ·have hr:=rune_low hc h128
     have f1:=hf.trans (Frm.set hf.wf hq (o:= .iter s (p+1))) (by simp)
     have hq1:=hget_hset_self hq (o:= .iter s (p+1))
     have hcall:=indexRune_low (st:=⟨hset st1.h q (.iter s (p+1)),st1.nx⟩) H f1.wf (chars:=chars) h128
     simp[B.strings_IndexAny_l1,go_sem,g1,g45,WO.run,hq,hp,hr]
     refine hcall.use fun s1 hs1=> ?_
     have f2:=f1.trans (hs1.fr [q]) (by simp)
     by_cases hin:c∈chars
     ·have h0:=(indexByte_mem chars c).2 hin
      have hany:anyOf chars (s.drop p)=true:=by rw[hd];simp[anyOf,hin]
      simp[go_sem,h0,hany,f2]
      exact⟨p,rfl⟩
     ·have h0:¬0≤Lib.indexByte chars c:=fun h=>hin ((indexByte_mem chars c).1 h)
      have hany:anyOf chars (s.drop p)=anyOf chars (s.drop (p+1)):=by rw[hd];simp[anyOf,hin]
      simp only[hany]
      simp[go_sem,h0]
      refine(ih (p+1) _ s1 (by omega) (by omega) f2 (hs1.get f1.wf hq1) ?_ ?_).mono fun x e' s' h=>h
      ·simp[go_sem]
      ·simp[go_sem]
    ·obtain⟨r1,r2,r3,r4,r5⟩:=rune_high hc (by omega)
     generalize hR:runeAt s p=R at r1 r2 r3 r4 r5
     have f1:=hf.trans (Frm.set hf.wf hq (o:= .iter s (p+R.2))) (by simp)
     have hq1:=hget_hset_self hq (o:= .iter s (p+R.2))
     have hcall:=indexRune_high (st:=⟨hset st1.h q (.iter s (p+R.2)),st1.nx⟩) H f1.wf (chars:=chars) ha hcl (r:=(R.1:Int)) (by omega)
     have hany:anyOf chars (s.drop p)=anyOf chars (s.drop (p+R.2)):=by
      have:s.drop p=(s.drop p).take R.2++s.drop (p+R.2):=by rw[←List.drop_drop,List.take_append_drop]
      rw[this]
      simp only[anyOf,List.any_append]
      have hz:((s.drop p).take R.2).any (fun c=>decide (c∈chars))=false:=by
       rw[List.any_eq_false]
       intro d hd
       obtain⟨j,hj⟩:=List.mem_iff_getElem?.1 hd
       rw[List.getElem?_take]at hj
       split at hj
       ·rename_i hjl
        rw[List.getElem?_drop]at hj
        have:=r5 j hjl d hj
        intro hin
        have:=ha d (by simpa using hin)
        omega
       ·cases hj
      rw[hz,Bool.false_or]
     simp only[hany]
     simp[B.strings_IndexAny_l1,go_sem,g1,g45,WO.run,hq,hp,hR]
     refine hcall.use fun s1 hs1=> ?_
     have f2:=f1.trans (hs1.fr [q]) (by simp)
     simp[go_sem]
     refine(ih (p+R.2) _ s1 (by omega) r4 f2 (hs1.get f1.wf hq1) ?_ ?_).mono fun x e' s' h=>h
     ·simp[go_sem]
     ·simp[go_sem]
   ·rw[run_loop,List.drop_of_length_le (by omega)]
    simp[B.strings_IndexAny_l1,go_sem,g1,g45,WO.run,hq,hp,hf,anyOf]
theorem indexAny_res (H:B.H_strings_IndexAny T) (hwf:st.Wf) {s chars:List UInt8} (ha:ascii chars) (h2:2≤chars.length) (hcl:chars.length<1000000000) (hlen:s.length<9223372036854775807):
  CRes (call T (.fn 141 [] []) [.str s,.str chars] st) fun v s'=>Ext st s'∧∃i:Int,v= .int .i64 i∧(0≤i↔anyOf chars s=true):=by
 refine call_res H.e H.f rfl ?_
 have hne:seq8 chars []=false:=by cases chars with | nil=>simp at h2 | cons=>rfl
 have h1:¬(chars.length:Int)=1:=by omega
 have h1':¬chars.length=1:=by omega
 have h88:∀st:St,st.Wf→Tells T st (.fn 144 [] []) [.int .i64 s.length] (.bool (decide (8<(s.length:Int)))):=fun st hw=>by
  refine tells_of H.strings_shouldUseASCIISet.e H.strings_shouldUseASCIISet.f rfl ?_
  simp[B.strings_shouldUseASCIISet,go_sem,Ext.refl hw]
 have h0:List.replicate 256 (AV.bool false)=setC []:=setC_nil
 simp only[B.strings_IndexAny,h0]
 simp[go_sem,hne,h1,h1']
 refine(h88 st hwf).use fun s1 hs1=> ?_
 by_cases h8:8<(s.length:Int)
 ·simp[go_sem,h8]
  refine(makeSet_tells H.strings_makeASCIISet hs1.wf ha hcl).use fun s2 hs2=> ?_
  have x2:=hs1.trans hs2
  have hxn:=Ext.new x2.wf (.cells 197 false (setC chars))
  have hw:=wr_all (h:=(s2.nx,.cells 197 false (setC []))::s2.h) (n:=s2.nx) (ty:=197) (l:=false) (cs:=setC []) (vs:=setC chars) (by simp[hget_cons]) (by rw[setC_len,setC_len]) (setC_sc _)
  rw[hset_cons,if_pos rfl]at hw
  simp[go_sem,NO.run,WO.run,setC_len,hw]
  refine(long_loop H.strings_asciiSet_contains (chars:=chars) hlen ⟨(s2.nx,.cells 197 false (setC chars))::s2.h,s2.nx+1⟩ (q:=s2.nx) (b:=false) (by simp[hget_cons]) hxn.wf s.length 0 _ _ (by simp) (.refl hxn.wf) ?_ ?_ ?_).mono ?_
  ·simp[go_sem]
  ·simp[go_sem]
  ·simp[go_sem]
  ·have x3:=x2.trans hxn
   rintro x e s' ⟨hx,⟨rfl,h⟩ | ⟨rfl,h,j,g⟩⟩
   ·rw[List.drop_zero]at h
    simp[go_sem]
    exact⟨(x3.trans hx).dropLoc,by simp[h]⟩
   ·rw[List.drop_zero]at h
    simp[go_sem,g]
    exact⟨(x3.trans hx).dropLoc,by simp[h]⟩
 ·have hxn:=Ext.new hs1.wf (.iter s 0)
  simp[go_sem,h8,NO.run]
  refine(short_loop H.strings_IndexRune ha hcl hlen ⟨(s1.nx,.iter s 0)::s1.h,s1.nx+1⟩ (q:=s1.nx) s.length 0 _ _ (by omega) (by omega) (.refl hxn.wf _) (by simp[hget_cons]) ?_ ?_).mono ?_
  ·simp[go_sem]
  ·simp[go_sem]
  ·have x3:=hs1.trans hxn
   rintro x e s' ⟨hf,⟨rfl,h⟩ | ⟨rfl,h,j,g⟩⟩
   ·rw[List.drop_zero]at h
    simp[go_sem]
    exact⟨(x3.frm hf (by intro n hn;have:=hs1.nx;simp at hn;omega)).dropLoc,by simp[h]⟩
   ·rw[List.drop_zero]at h
    simp[go_sem,g]
    exact⟨(x3.frm hf (by intro n hn;have:=hs1.nx;simp at hn;omega)).dropLoc,by simp[h]⟩
theorem containsAny_tells (H:B.H_strings_ContainsAny T) (hwf:st.Wf) {s chars:List UInt8} (ha:ascii chars) (h2:2≤chars.length) (hcl:chars.length<1000000000) (hlen:s.length<9223372036854775807):
  Tells T st (.fn 98 [] []) [.str s,.str chars] (.bool (anyOf chars s)):=by
 refine tells_of H.e H.f rfl ?_
 simp[B.strings_ContainsAny,go_sem]
 refine(indexAny_res H.strings_IndexAny hwf ha h2 hcl hlen).mono ?_
 rintro v s1 ⟨hx,i,rfl,hi⟩
 simp[go_sem,hx]
 rw[Bool.eq_iff_iff]
 simpa using hi
end Go.Ev

/- lex.Number told. -/
namespace Go.Ev
open Go
variable {T : Tab} {st : St}
def isDig (c:UInt8):Bool:=decide (48≤c.toNat) && decide (c.toNat≤57)
def isExp (c:UInt8):Bool:=decide (c=101) || decide (c=69)
def shorten:Bool→Bool→List UInt8→List UInt8
 | _,_,[]=>[]
 | pd,mant,c::r=>if(mant && !isExp c)=true∧isDig c=true∧pd=true then shorten true (mant && !isExp c) r else c::shorten (isDig c) (mant && !isExp c) r
theorem pattern_loop {s:List UInt8} (hs:s.length<4000000000000000000) (st0:St) (hwf:st0.Wf):∀(m i:Nat) (acc:List UInt8) (pd mant:Bool) (e:Env),i+m=s.length→(i=0→pd=false)→(∀c,0<i→s[i - 1]? =some c→isDig c=pd)→acc.length≤41→
  eget e 0= .str s→eget e 3= .str acc→eget e 4= .bool mant→eget e 10= .int .i64 s.length→eget e 11= .int .i64 i→
  Res (run T (.loop B.lex_pattern_l0) e st0) fun x e' s'=>s'=st0∧((x= .exit 0∧eget e' 3= .str (acc++shorten pd mant (s.drop i))∧(acc++shorten pd mant (s.drop i)).length≤41)∨(x= .ret∧eget e' 2= .bool false∧41<(acc++shorten pd mant (s.drop i)).length)):=by
 intro m
 induction m with
 | zero=>
   intro i acc pd mant e hi hp0 hp hacc g0 g3 g4 g10 g11
   have hil:i=s.length:=by omega
   subst hil
   rw[run_loop]
   simp[B.lex_pattern_l0,go_sem,g0,g3,g4,g10,g11,shorten]
   omega
 | succ m ih=>
   intro i acc pd mant e hi hp0 hp hacc g0 g3 g4 g10 g11
   have hil:i<s.length:=by omega
   have hil':(i:Int)<s.length:=by omega
   obtain⟨c,hc,hd⟩:=idx_some hil
   have e1:IntKind.i64.wrap ((i:Int)+1)=((i+1:Nat):Int):=wrap64' (by omega) (by omega)
   have hp':∀d,0<i+1→s[i+1 - 1]? =some d→isDig d=isDig c:=fun d _ h=>by rw[Nat.add_sub_cancel,hc]at h;cases h;rfl
   obtain⟨m2,hm2⟩:∃m2,m2=(mant && !isExp c):=⟨_,rfl⟩
   have hsh:shorten pd mant (s.drop i)=if m2=true∧isDig c=true∧pd=true then shorten true m2 (s.drop (i+1))else c::shorten (isDig c) m2 (s.drop (i+1)):=by
    rw[hd,shorten,hm2]
   have hsub:=asubS_some (s:=s) (i:=i) (j:=(i:Int)+1) (k:= .i64) (k':= .i64) (by omega) (by omega) (by omega)
   have hone:(s.drop i).take 1=[c]:=by rw[hd];rfl
   have ht:((i:Int)+1).toNat - ((i:Int)).toNat=1:=by omega
   rw[ht,Int.toNat_natCast,hone]at hsub
   have e2:IntKind.i64.wrap ((i:Int)+1)=(i:Int)+1:=wrap64' (by omega) (by omega)
   have hx1:((c.toNat:Int)=101)↔c=101:=⟨fun h=>UInt8.toNat_inj.1 (by have:(101:UInt8).toNat=101:=rfl;omega),fun h=>by subst h;rfl⟩
   have hx2:((c.toNat:Int)=69)↔c=69:=⟨fun h=>UInt8.toNat_inj.1 (by have:(69:UInt8).toNat=69:=rfl;omega),fun h=>by subst h;rfl⟩
   have d1:((48:Int)≤c.toNat)↔48≤c.toNat:=by omega
   have d2:((c.toNat:Int)≤57)↔c.toNat≤57:=by omega
   have n101:(101:UInt8).toNat=101:=rfl
   have n69:(69:UInt8).toNat=69:=rfl
   have hlen:acc.length+1<4611686018427387904:=by omega
   have full:shorten pd mant (s.drop i)=c::shorten (isDig c) m2 (s.drop (i+1))→40<acc.length→41<(acc++shorten pd mant (s.drop i)).length:=fun h1 h2=>by rw[h1];simp;omega
   have next:shorten pd mant (s.drop i)=c::shorten (isDig c) m2 (s.drop (i+1))→¬40<acc.length→∀(e':Env),eget e' 0= .str s→eget e' 3= .str (acc++[c])→eget e' 4= .bool m2→eget e' 10= .int .i64 s.length→eget e' 11= .int .i64 ((i:Int)+1)→
     Res (run T (.loop B.lex_pattern_l0) e' st0) fun x e' s'=>s'=st0∧((x= .exit 0∧eget e' 3= .str (acc++shorten pd mant (s.drop i))∧(acc++shorten pd mant (s.drop i)).length≤41)∨(x= .ret∧eget e' 2= .bool false∧41<(acc++shorten pd mant (s.drop i)).length)):=by
    intro h1 h2 e' a0 a3 a4 a10 a11
    have:=ih (i+1) (acc++[c]) (isDig c) m2 e' (by omega) (by omega) hp' (by simp;omega) a0 a3 a4 a10 (by rw[a11];rfl)
    rw[List.append_assoc,List.singleton_append,←h1]at this
    exact this
   have skip:shorten pd mant (s.drop i)=shorten (isDig c) m2 (s.drop (i+1))→∀(e':Env),eget e' 0= .str s→eget e' 3= .str acc→eget e' 4= .bool m2→eget e' 10= .int .i64 s.length→eget e' 11= .int .i64 ((i:Int)+1)→
     Res (run T (.loop B.lex_pattern_l0) e' st0) fun x e' s'=>s'=st0∧((x= .exit 0∧eget e' 3= .str (acc++shorten pd mant (s.drop i))∧(acc++shorten pd mant (s.drop i)).length≤41)∨(x= .ret∧eget e' 2= .bool false∧41<(acc++shorten pd mant (s.drop i)).length)):=by
    intro h1 e' a0 a3 a4 a10 a11
    have:=ih (i+1) acc (isDig c) m2 e' (by omega) (by omega) hp' hacc a0 a3 a4 a10 (by rw[a11];rfl)
    rw[←h1]at this
    exact this
   clear ih hp'
   generalize hTG:acc++shorten pd mant (s.drop i)=TG at full next skip⊢
   rw[run_loop]
   by_cases hE:isExp c=true
   ·
    have hm2f:m2=false:=by rw[hm2,hE];simp
    subst hm2f
    simp only[Bool.false_eq_true,false_and,if_false]at hsh
    have hcE:c=101∨c=69:=by simpa [isExp] using hE
    have hcv:(c.toNat:Int)=101∨(¬(c.toNat:Int)=101∧(c.toNat:Int)=69):=by rcases hcE with rfl | rfl <;> omega
    by_cases hf:40<acc.length
    ·have hf':(40:Int)<acc.length:=by omega
     have hfin:=full hsh hf
     rcases hcv with h101 | ⟨h101,h69⟩
     ·simp[B.lex_pattern_l0,go_sem,g0,g3,g4,g10,g11,hil',hc,h101,hf',hfin]
     ·simp[B.lex_pattern_l0,go_sem,g0,g3,g4,g10,g11,hil',hc,h101,h69,hf',hfin]
    ·have hf':¬(40:Int)<acc.length:=by omega
     rcases hcv with h101 | ⟨h101,h69⟩
     ·simp[B.lex_pattern_l0,go_sem,g0,g3,g4,g10,g11,hil',hc,h101,hf',e2,hsub,hlen]
      refine next hsh hf _ ?_ ?_ ?_ ?_ ?_ <;> simp[go_sem]
     ·simp[B.lex_pattern_l0,go_sem,g0,g3,g4,g10,g11,hil',hc,h101,h69,hf',e2,hsub,hlen]
      refine next hsh hf _ ?_ ?_ ?_ ?_ ?_ <;> simp[go_sem]
   ·have hEf:isExp c=false:=by simpa using hE
    have hm2f:m2=mant:=by rw[hm2,hEf];simp
    subst hm2f
    have hcn:¬c=101∧¬c=69:=by simpa [isExp] using hE
    have h101:¬(c.toNat:Int)=101:=fun h=>hcn.1 (hx1.1 h)
    have h69:¬(c.toNat:Int)=69:=fun h=>hcn.2 (hx2.1 h)
    by_cases hdg:isDig c=true
    ·have hdg':48≤c.toNat∧c.toNat≤57:=by simpa [isDig] using hdg
     have h48:(48:Int)≤c.toNat:=by omega
     have h57:(c.toNat:Int)≤57:=by omega
     cases hmm:m2 with
     | false=>
       rw[hmm]at hsh g4
       simp only[Bool.false_eq_true,false_and,if_false]at hsh
       rw[hmm]at full next skip
       by_cases hf:40<acc.length
       ·have hf':(40:Int)<acc.length:=by omega
        have hfin:=full hsh hf
        simp[B.lex_pattern_l0,go_sem,g0,g3,g4,g10,g11,hil',hc,h101,h69,h48,h57,hf',hfin]
       ·have hf':¬(40:Int)<acc.length:=by omega
        simp[B.lex_pattern_l0,go_sem,g0,g3,g4,g10,g11,hil',hc,h101,h69,h48,h57,hf',e2,hsub,hlen]
        refine next hsh hf _ ?_ ?_ ?_ ?_ ?_ <;> simp[go_sem]
     | true=>
       rw[hmm]at hsh g4
       rw[hmm]at full next skip
       simp only[hdg,true_and]at hsh
       by_cases hi0:0<i
       ·have hi0':(0:Int)<i:=by omega
        have hi1:(1:Int)≤i:=by omega
        obtain⟨d,hd',_⟩:=idx_some (s:=s) (i:=i - 1) (by omega)
        have hpd:=hp d hi0 hd'
        have e3:IntKind.i64.wrap ((i:Int) - 1)=(i:Int) - 1:=wrap64' (by omega) (by omega)
        have t3:((i:Int) - 1).toNat=i - 1:=by omega
        cases hpv:pd with
        | true=>
          rw[hpv]at hpd hsh
          simp only[if_true]at hsh
          rw[hpv]at full next skip
          have hdd:48≤d.toNat∧d.toNat≤57:=by simpa [isDig] using hpd
          have hd48:(48:Int)≤d.toNat:=by omega
          have hd57:(d.toNat:Int)≤57:=by omega
          rw[hdg]at skip
          simp[B.lex_pattern_l0,go_sem,g0,g3,g4,g10,g11,hil',hc,h101,h69,h48,h57,hi0,hi0',hi1,e3,t3,hd',hd48,hd57,e2]
          refine skip hsh _ ?_ ?_ ?_ ?_ ?_ <;> simp[go_sem]
        | false=>
          rw[hpv]at hpd hsh
          simp only[Bool.false_eq_true,if_false]at hsh
          rw[hpv]at full next skip
          have hdd:¬(48≤d.toNat∧d.toNat≤57):=by
           intro h
           have:isDig d=true:=by simp[isDig,h.1,h.2]
           rw[hpd]at this
           cases this
          rw[hdg]at full next
          by_cases hf:40<acc.length
          ·have hf':(40:Int)<acc.length:=by omega
           have hfin:=full hsh hf
           by_cases hd48:(48:Int)≤d.toNat
           ·have hd57:¬(d.toNat:Int)≤57:=by omega
            simp[B.lex_pattern_l0,go_sem,g0,g3,g4,g10,g11,hil',hc,h101,h69,h48,h57,hi0,hi0',hi1,e3,t3,hd',hd48,hd57,hf',hfin]
           ·simp[B.lex_pattern_l0,go_sem,g0,g3,g4,g10,g11,hil',hc,h101,h69,h48,h57,hi0,hi0',hi1,e3,t3,hd',hd48,hf',hfin]
          ·have hf':¬(40:Int)<acc.length:=by omega
           by_cases hd48:(48:Int)≤d.toNat
           ·have hd57:¬(d.toNat:Int)≤57:=by omega
            simp[B.lex_pattern_l0,go_sem,g0,g3,g4,g10,g11,hil',hc,h101,h69,h48,h57,hi0,hi0',hi1,e3,t3,hd',hd48,hd57,hf',e2,hsub,hlen]
            refine next hsh hf _ ?_ ?_ ?_ ?_ ?_ <;> simp[go_sem]
           ·simp[B.lex_pattern_l0,go_sem,g0,g3,g4,g10,g11,hil',hc,h101,h69,h48,h57,hi0,hi0',hi1,e3,t3,hd',hd48,hf',e2,hsub,hlen]
            refine next hsh hf _ ?_ ?_ ?_ ?_ ?_ <;> simp[go_sem]
       ·have hi0':¬(0:Int)<i:=by omega
        have hpv:=hp0 (by omega)
        rw[hpv]at hsh full next
        simp only[Bool.false_eq_true,if_false]at hsh
        rw[hdg]at full next
        by_cases hf:40<acc.length
        ·have hf':(40:Int)<acc.length:=by omega
         have hfin:=full hsh hf
         simp[B.lex_pattern_l0,go_sem,g0,g3,g4,g10,g11,hil',hc,h101,h69,h48,h57,hi0,hi0',hf',hfin]
        ·have hf':¬(40:Int)<acc.length:=by omega
         simp[B.lex_pattern_l0,go_sem,g0,g3,g4,g10,g11,hil',hc,h101,h69,h48,h57,hi0,hi0',hf',e2,hsub,hlen]
         refine next hsh hf _ ?_ ?_ ?_ ?_ ?_ <;> simp[go_sem]
    ·have hdgf:isDig c=false:=by simpa using hdg
     rw[hdgf]at hsh full next
     simp only[Bool.false_eq_true,false_and,and_false,if_false]at hsh
     have hdd:¬(48≤c.toNat∧c.toNat≤57):=by
      intro h
      have:isDig c=true:=by simp[isDig,h.1,h.2]
      rw[hdgf]at this
      cases this
     by_cases hf:40<acc.length
     ·have hf':(40:Int)<acc.length:=by omega
      have hfin:=full hsh hf
      by_cases h48:(48:Int)≤c.toNat
      ·have h57:¬(c.toNat:Int)≤57:=by omega
       cases m2 <;> simp[B.lex_pattern_l0,go_sem,g0,g3,g4,g10,g11,hil',hc,h101,h69,h48,h57,hf',hfin]
      ·cases m2 <;> simp[B.lex_pattern_l0,go_sem,g0,g3,g4,g10,g11,hil',hc,h101,h69,h48,hf',hfin]
     ·have hf':¬(40:Int)<acc.length:=by omega
      by_cases h48:(48:Int)≤c.toNat
      ·have h57:¬(c.toNat:Int)≤57:=by omega
       cases m2 <;> simp[B.lex_pattern_l0,go_sem,g0,g3,g4,g10,g11,hil',hc,h101,h69,h48,h57,hf',e2,hsub,hlen] <;> (refine next hsh hf _ ?_ ?_ ?_ ?_ ?_ <;> simp[go_sem])
      ·cases m2 <;> simp[B.lex_pattern_l0,go_sem,g0,g3,g4,g10,g11,hil',hc,h101,h69,h48,hf',e2,hsub,hlen] <;> (refine next hsh hf _ ?_ ?_ ?_ ?_ ?_ <;> simp[go_sem])
def patS (s:List UInt8):Bool:= !decide (41<(shorten false true s).length) && (decide ((parseS (shorten false true s)).2=0) || decide ((parseS (shorten false true s)).2=6))
theorem pattern_tells (H:B.H_lex_pattern T) (hwf:st.Wf) {s:List UInt8} (hs:s.length<4000000000000000000):Tells T st (.fn 99 [] []) [.str s] (.bool (patS s)):=by
 refine tells_of H.e H.f rfl ?_
 simp[B.lex_pattern,go_sem]
 refine(pattern_loop hs st hwf s.length 0 [] false true _ (by simp) (fun _=>rfl) (fun _ h=>by omega) (by simp) ?_ ?_ ?_ ?_ ?_).mono ?_
 ·simp[go_sem]
 ·simp[go_sem]
 ·simp[go_sem]
 ·simp[go_sem]
 ·simp[go_sem]
 ·simp only[List.drop_zero,List.nil_append]
  rintro x e s' ⟨rfl,⟨rfl,h1,h2⟩ | ⟨rfl,h1,h2⟩⟩
  ·simp[go_sem,h1]
   refine(parse_tells H.real_Parse hwf).use fun s1 hs1=> ?_
   have h2':¬41<(shorten false true s).length:=by omega
   by_cases he:(parseS (shorten false true s)).2=0
   ·simp[go_sem,patS,h2,h2',he,hs1]
   ·simp[go_sem,patS,h2,h2',he,hs1]
  ·simp[go_sem,h1,patS,h2,Ext.refl hwf]
end Go.Ev

/- lex.Number, lex.Word told. -/
namespace Go.Ev
open Go
variable {T : Tab} {st : St}
abbrev Tk:=Int×Int×Int
def toA (t:Tk):AV:=tokA t.1 t.2.1 [] t.2.2
def ansT (n:Int) (len:Nat):Tk:=if 40<len∨n< -2147483648∨2147483647<n then(0,0,26)else(1,n,0)
theorem ansS_eq (n:Int) (len:Nat):ansS n len=toA (ansT n len):=by unfold ansS ansT;split <;> rfl
def wholeT (s:List UInt8):Tk:=if(cntS 10 (unsign s).1).2=true then ansT ((unsign s).2*(cntS 10 (unsign s).1).1) s.length else(0,0,5)
theorem wholeS_eq (s:List UInt8):wholeS s=toA (wholeT s):=by
 unfold wholeS wholeT
 split
 ·exact ansS_eq _ _
 ·rfl
def radixT (s:List UInt8):Tk:=
 if(cutS 35 s).2.2=false∨(cntS 10 (cutS 35 s).1).2=false∨2<(cutS 35 s).1.length∨(cntS 10 (cutS 35 s).1).1<2∨36<(cntS 10 (cutS 35 s).1).1 then(0,0,5)
 else if(cntS (cntS 10 (cutS 35 s).1).1 (cutS 35 s).2.1).2=true then ansT (cntS (cntS 10 (cutS 35 s).1).1 (cutS 35 s).2.1).1 s.length
 else(0,0,5)
theorem radixS_eq (s:List UInt8):radixS s=toA (radixT s):=by
 unfold radixS radixT
 split
 ·rfl
 ·split
  ·exact ansS_eq _ _
  ·rfl
def decT (s:List UInt8):Tk:=if anyOf [46,101,69] s=false∨patS s=false then(0,0,5)else if(parseS s).2=0 then(2,(parseS s).1,0)else(0,0,26)
theorem decimalN_tells (H:B.H_lex_numeral_decimal T) (hwf:st.Wf) {s:List UInt8} (hs:s.length<4000000000000000000):Tells T st (.fn 77 [] []) [.str s] (toA (decT s)):=by
 refine tells_of H.e H.f rfl ?_
 have hx:=Ext.new hwf (.cells 134 true [.int .i64 0,.int .i64 0,.str []])
 have hg:hget ((st.nx,AObj.cells 134 true [.int .i64 0,.int .i64 0,.str []])::st.h) st.nx=some (.cells 134 true [.int .i64 0,.int .i64 0,.str []]):=by simp[hget_cons]
 have hasc:ascii [46,101,69]:=by intro c hc;simp at hc;rcases hc with rfl | rfl | rfl <;> decide
 simp[B.lex_numeral_decimal,go_sem,NO.run]
 refine(containsAny_tells H.strings_ContainsAny hx.wf hasc (by simp) (by simp) (by omega)).use fun s1 hs1=> ?_
 have e1:=hx.trans hs1
 have g1:=hs1.get hx.wf hg
 cases ha:anyOf [46,101,69] s with
 | false=>
   simp[go_sem,tok_wr g1,WO.run,fresults,resVals,resVal,RO.run,tok_rd (hget_hset_self g1),toA,decT,ha,tokA,tokC]
   exact e1.setNew g1 (Nat.le_refl _)
 | true=>
   simp[go_sem]
   refine(pattern_tells H.lex_pattern e1.wf hs).use fun s2 hs2=> ?_
   have e2:=e1.trans hs2
   have g2:=hs2.get e1.wf g1
   cases hp:patS s with
   | false=>
     simp[go_sem,tok_wr g2,WO.run,fresults,resVals,resVal,RO.run,tok_rd (hget_hset_self g2),toA,decT,ha,hp,tokA,tokC]
     exact e2.setNew g2 (Nat.le_refl _)
   | true=>
     simp[go_sem]
     refine(parse_tells H.real_Parse e2.wf).use fun s3 hs3=> ?_
     have e3:=e2.trans hs3
     have g3:=hs3.get e2.wf g2
     by_cases he:(parseS s).2=0
     ·simp[go_sem,he,tok_wr g3,WO.run,fresults,resVals,resVal,RO.run,tok_rd (hget_hset_self g3),toA,decT,ha,hp,tokA,tokC]
      exact e3.setNew g3 (Nat.le_refl _)
     ·simp[go_sem,he,tok_wr g3,WO.run,fresults,resVals,resVal,RO.run,tok_rd (hget_hset_self g3),toA,decT,ha,hp,tokA,tokC]
      exact e3.setNew g3 (Nat.le_refl _)
def numT (s:List UInt8):Tk:=if(wholeT s).2.2≠5 then wholeT s else if(radixT s).2.2≠5 then radixT s else decT s
theorem number_tells (H:B.H_lex_Number T) (hwf:st.Wf) {s:List UInt8} (hs:s.length<4000000000000000000):Tells T st (.fn 63 [] []) [.str s] (toA (numT s)):=by
 refine tells_of H.e H.f rfl ?_
 have hx:=Ext.new hwf (.cells 134 true [.int .i64 0,.int .i64 0,.str []])
 have hg:hget ((st.nx,AObj.cells 134 true [.int .i64 0,.int .i64 0,.str []])::st.h) st.nx=some (.cells 134 true [.int .i64 0,.int .i64 0,.str []]):=by simp[hget_cons]
 have t1:=fun st (h:St.Wf st)=>whole_tells (st:=st) H.lex_numeral_whole h (s:=s) (by omega)
 have t2:=fun st (h:St.Wf st)=>radix_tells (st:=st) H.lex_numeral_radix h (s:=s) (by omega)
 have t3:=fun st (h:St.Wf st)=>decimalN_tells (st:=st) H.lex_numeral_decimal h (s:=s) hs
 simp only[wholeS_eq,radixS_eq]at t1 t2
 obtain⟨w,hw⟩:∃w,w=wholeT s:=⟨_,rfl⟩
 obtain⟨r,hr⟩:∃r,r=radixT s:=⟨_,rfl⟩
 obtain⟨d,hd⟩:∃d,d=decT s:=⟨_,rfl⟩
 have hn:numT s=(if w.2.2≠5 then w else if r.2.2≠5 then r else d):=by rw[hw,hr,hd,numT]
 rw[←hw]at t1;rw[←hr]at t2;rw[←hd]at t3
 rw[hn]
 clear hn hw hr hd
 have w1:IntKind.i64.wrap 1=1:=wrap64' (by omega) (by omega)
 have w2:IntKind.i64.wrap 2=2:=wrap64' (by omega) (by omega)
 have w3:IntKind.i64.wrap 3=3:=wrap64' (by omega) (by omega)
 simp[B.lex_Number,go_sem,NO.run]
 rw[run_loop]
 simp[B.lex_Number_l0,go_sem]
 refine(t1 _ hx.wf).use fun s1 hs1=> ?_
 have e1:=hx.trans hs1
 have g1:=hs1.get hx.wf hg
 have hw1:=tok_wr g1 (k':=w.1) (n':=w.2.1) (t':=[])
 have f1:=e1.setNew g1 (o:= .cells 134 true [.int .i64 w.1,.int .i64 w.2.1,.str []]) (Nat.le_refl _)
 have g1':=hget_hset_self g1 (o:= .cells 134 true [.int .i64 w.1,.int .i64 w.2.1,.str []])
 by_cases hw5:w.2.2=5
 ·simp[go_sem,toA,tokA,tokC,WO.run,hw1,hw5,w1]
  rw[run_loop]
  simp[B.lex_Number_l0,go_sem]
  refine(t2 _ f1.wf).use fun s2 hs2=> ?_
  have e2:=f1.trans hs2
  have g2:=hs2.get f1.wf g1'
  have hw2:=tok_wr g2 (k':=r.1) (n':=r.2.1) (t':=[])
  have f2:=e2.setNew g2 (o:= .cells 134 true [.int .i64 r.1,.int .i64 r.2.1,.str []]) (Nat.le_refl _)
  have g2':=hget_hset_self g2 (o:= .cells 134 true [.int .i64 r.1,.int .i64 r.2.1,.str []])
  by_cases hr5:r.2.2=5
  ·simp[go_sem,toA,tokA,tokC,WO.run,hw2,hr5,w2]
   rw[run_loop]
   simp[B.lex_Number_l0,go_sem]
   refine(t3 _ f2.wf).use fun s3 hs3=> ?_
   have e3:=f2.trans hs3
   have g3:=hs3.get f2.wf g2'
   have hw3:=tok_wr g3 (k':=d.1) (n':=d.2.1) (t':=[])
   have f3:=e3.setNew g3 (o:= .cells 134 true [.int .i64 d.1,.int .i64 d.2.1,.str []]) (Nat.le_refl _)
   have g3':=hget_hset_self g3 (o:= .cells 134 true [.int .i64 d.1,.int .i64 d.2.1,.str []])
   have f4:=f3.setNew g3' (o:= .cells 134 true [.int .i64 d.1,.int .i64 d.2.1,.str []]) (Nat.le_refl _)
   have g4:=hget_hset_self g3' (o:= .cells 134 true [.int .i64 d.1,.int .i64 d.2.1,.str []])
   by_cases hd5:d.2.2=5
   ·simp[go_sem,toA,tokA,tokC,WO.run,RO.run,hw3,hd5,w3,tok_rd g3']
    rw[run_loop]
    simp[B.lex_Number_l0,go_sem,WO.run,RO.run,tok_rd g3',tok_wr g3',tok_rd g4,fresults,resVals,resVal,hd5]
    exact f4
   ·simp[go_sem,toA,tokA,tokC,WO.run,RO.run,hw3,hd5,w3,tok_rd g3',tok_wr g3',tok_rd g4,fresults,resVals,resVal]
    exact f4
  ·have f4:=f2.setNew g2' (o:= .cells 134 true [.int .i64 r.1,.int .i64 r.2.1,.str []]) (Nat.le_refl _)
   have g4:=hget_hset_self g2' (o:= .cells 134 true [.int .i64 r.1,.int .i64 r.2.1,.str []])
   simp[go_sem,toA,tokA,tokC,WO.run,RO.run,hw2,hr5,tok_rd g2',tok_wr g2',tok_rd g4,fresults,resVals,resVal]
   exact f4
 ·have f4:=f1.setNew g1' (o:= .cells 134 true [.int .i64 w.1,.int .i64 w.2.1,.str []]) (Nat.le_refl _)
  have g4:=hget_hset_self g1' (o:= .cells 134 true [.int .i64 w.1,.int .i64 w.2.1,.str []])
  simp[go_sem,toA,tokA,tokC,WO.run,RO.run,hw1,hw5,tok_rd g1',tok_wr g1',tok_rd g4,fresults,resVals,resVal]
  exact f4
end Go.Ev

/- The reference's count; Word. -/
namespace Go.Ev
open Go
variable {T : Tab} {st : St}
def wordT (s:List UInt8):Int×Int×List UInt8×Int:=
 if s=[]∨regAll s=false then(0,0,[],5)
 else if(numT s).2.2≠5 then((numT s).1,(numT s).2.1,[],(numT s).2.2)
 else if 100<s.length then(0,0,[],26)else(3,0,s,0)
end Go.Ev

/- strings.Builder; Quote. -/
namespace Go.Ev
open Go
variable {T : Tab} {st : St}
def u8s (l:List UInt8):List AV:=l.map fun c=> .int .u8 ((c.toNat:Nat):Int)
theorem u8s_len (l:List UInt8):(u8s l).length=l.length:=by simp[u8s]
theorem u8s_snoc (l:List UInt8) (c:UInt8):u8s (l++[c])=u8s l++[.int .u8 (c.toNat:Int)]:=by simp[u8s]
def Grow (st0 s:St) (v:AV) (l:List UInt8):Prop:=Sl s v 5 1 l.length (u8s l)∧Mine [] st0 v∧NK v
theorem Grow.nil (st0 s:St):Grow st0 s .nilslice []:=⟨.nil _ _ _,.nil _ _,fun _ _ _ _ h=>by cases h⟩
theorem Grow.ge {st0 s:St} {v:AV} {l:List UInt8} (a:Grow st0 s v l):∀n∈v.nms,st0.nx≤n:=fun n hn=>by
 rcases a.2.1 n hn with h | h
 ·cases h
 ·exact h
theorem Grow.frm {st0 s s':St} {v:AV} {l:List UInt8} {S:List Nat} (a:Grow st0 s v l) (f:Frm S s s') (hw:s.Wf) (hn:∀n∈v.nms,n∉S):Grow st0 s' v l:=⟨a.1.frm f hw hn,a.2.1,a.2.2⟩
theorem Grow.ext {st0 s s':St} {v:AV} {l:List UInt8} (a:Grow st0 s v l) (f:Ext s s') (hw:s.Wf):Grow st0 s' v l:=a.frm (f.fr []) hw (by simp)
theorem Grow.dropLoc {st0 s:St} {v:AV} {l:List UInt8} {c:Nat} (a:Grow st0 s v l) (hw:s.Wf):Grow st0 ⟨Go.Ev.dropLoc c s.h,s.nx⟩ v l:=⟨a.1.dropLoc hw,a.2.1,a.2.2⟩
theorem Grow.nms {st0 s:St} {v:AV} {l:List UInt8} (a:Grow st0 s v l) {n:Nat} (h:n∈v.nms):(∃ty,hget s.h n=some (.cells ty false (u8s l)))∨hget s.h n=some (.buf 5 1 (u8s l)):=by
 obtain⟨⟨m,a⟩,_,_⟩:=a
 rcases a with ⟨h1,h2,h3⟩ | ⟨h1,h2,h3⟩ | ⟨ty',h1,h2,h3⟩ <;> rw[h1]at h <;> simp[AV.nms]at h <;> subst h
 ·exact .inr h2
 ·exact .inl ⟨_,h2⟩
theorem Grow.push {st0 s1:St} (hF:st0.nx≤s1.nx) (hw:s1.Wf) {v:AV} {l:List UInt8} {c:UInt8} {k:Nat} (hk:0<k) (a:Grow st0 s1 v l) (hl:l.length<35184372088831):
  CRes (aappend 5 1 1 ⟨(s1.nx,.cells 5 false [.int .u8 (c.toNat:Int)])::s1.h,s1.nx+k⟩ v (.slice s1.nx 0 1 (.known 1))) fun v' s=>Grow st0 s v' (l++[c])∧Frm v.nms s1 s:=by
 obtain⟨a1,a2,a3⟩:=a
 have xa:=Ext.newA hw (.cells 5 false [.int .u8 (c.toNat:Int)]) hk
 have hap:=Sl.append (x:= .slice s1.nx 0 1 (.known 1)) (j:=1) (new:=[.int .u8 (c.toNat:Int)]) (b:=1) (Frm.refl xa.wf v.nms) (fun n h=> .inl h) (a1.ext xa hw)
  (.inr ⟨_,_,_,rfl,rd_all (ty:=5) (l:=false) (by simp[hget_cons]) rfl⟩) (by simp[AV.sc]) (by omega) (by omega) (.inl (by omega))
 refine(hap.also (fun _ _ h=>aappend_nk h a3)).mono ?_
 rintro v2 s2 ⟨⟨k1,k2,k3,_⟩,hnk2⟩
 refine⟨⟨by rw[u8s_snoc];simpa using k1,fun n hn=> ?_,hnk2⟩,(xa.fr v.nms).trans k2 (fun n h=> .inl h)⟩
 rcases k3 n hn with h | h
 ·exact a2 n h
 ·simp at h;exact .inr (by omega)
theorem Grow.sc {st0 s:St} {v:AV} {l:List UInt8} (a:Grow st0 s v l):v.sc=true:=by
 obtain⟨⟨m,a⟩,_,_⟩:=a
 rcases a with ⟨h1,h2,h3⟩ | ⟨h1,h2,h3⟩ | ⟨ty',h1,h2,h3⟩ <;> rw[h1] <;> rfl
theorem Grow.acells {st0 s:St} {v:AV} {l:List UInt8} (a:Grow st0 s v l):Go.Ev.acells v=[v]:=by
 obtain⟨⟨m,a⟩,_,_⟩:=a
 rcases a with ⟨h1,h2,h3⟩ | ⟨h1,h2,h3⟩ | ⟨ty',h1,h2,h3⟩ <;> rw[h1] <;> rfl
theorem Grow.apart {st0 s:St} {v x:AV} {l:List UInt8} (a:Grow st0 s v l) {q ty:Nat} {cs:List AV} (hq:hget s.h q=some (.cells ty false cs)) (hx:x∈cs) (hn:∀k n,x≠.int k n):q∉v.nms:=fun hm=>by
 have hz:∀l,x∉u8s l:=fun l h=>by
  simp only[u8s,List.mem_map]at h
  obtain⟨c,_,h⟩:=h
  exact hn _ _ h.symm
 rcases a.nms hm with ⟨t,h⟩ | h <;> rw[h]at hq <;> injection hq with hq <;> injection hq
 rename_i _ _ e
 rw[←e]at hx
 exact hz _ hx
theorem Ext.dropGe {st0 s:St} (a:Ext st0 s) {c:Nat} (hc:st0.nx≤c):Ext st0 ⟨Go.Ev.dropLoc c s.h,s.nx⟩:=
 ⟨a.nx,a.wf.dropLoc _,fun n hn=>by rw[hget_dropLoc_lt (Nat.lt_of_lt_of_le hn hc),a.keep n hn]⟩
def Bd (st0 s:St) (q:Nat) (l:List UInt8):Prop:=st0.nx≤q∧∃a v,hget s.h q=some (.cells 84 false [a,v])∧(a= .nilptr∨a= .ptr q 0)∧Grow st0 s v l∧q∉v.nms
theorem copyCheck_res (H:B.H_strings_Builder_copyCheck T) (hwf:st.Wf) {q:Nat} {a v:AV} (hq:hget st.h q=some (.cells 84 false [a,v])) (ha:a= .nilptr∨a= .ptr q 0):
  CRes (call T (.fn 109 [] []) [.ptr q 0] st) fun _ s'=>Frm [q] st s'∧hget s'.h q=some (.cells 84 false [.ptr q 0,v]):=by
 refine call_res H.e H.f rfl ?_
 rcases ha with rfl | rfl
 ·have hw1:wrCells st.h q 0 [.ptr q 0]=some (hset st.h q (.cells 84 false [.ptr q 0,v])):=wr_cells hq rfl (by simp[AV.sc])
  have hr:rdCell st.h q 0=some .nilptr:=by simp[rdCell,hq]
  have hen:=fun st=>call_entry (st:=st) H.abi_NoEscape.en (first:=[]) (args:=[.ptr q 0]) (cap:=[])
  have x1:=Frm.set hwf hq (o:= .cells 84 false [.ptr q 0,v])
  simp[B.strings_Builder_copyCheck,go_sem,RO.run,WO.run,hr,hen,B.E_abi_NoEscape,nilEq,hw1,hq]
  exact⟨x1.dropLoc,hget_dropLoc_keep x1.wf (hget_hset_self hq) rfl⟩
 ·simp[B.strings_Builder_copyCheck,go_sem,RO.run,show rdCell st.h q 0=some (.ptr q 0)by simp[rdCell,hq],nilEq]
  exact⟨((Ext.refl hwf).dropLoc).fr _,hget_dropLoc_keep hwf hq rfl⟩
theorem Bd.ext {st0 s s':St} {q:Nat} {l:List UInt8} (b:Bd st0 s q l) (x:Ext s s') (hw:s.Wf):Bd st0 s' q l:=by
 obtain⟨h1,a,v,h2,h3,h4,h5⟩:=b
 exact⟨h1,a,v,x.get hw h2,h3,h4.ext x hw,h5⟩
theorem writeByte_res (H:B.H_strings_Builder_WriteByte T) {st0:St} (hx:Ext st0 st) {q:Nat} {l:List UInt8} {c:UInt8} (b:Bd st0 st q l) (hl:l.length<35184372088831):
  CRes (call T (.fn 91 [] []) [.ptr q 0,.int .u8 (c.toNat:Int)] st) fun _ s'=>Ext st0 s'∧Bd st0 s' q (l++[c]):=by
 obtain⟨h1,a,v,h2,h3,h4,h5⟩:=b
 refine call_res H.e H.f rfl ?_
 simp[B.strings_Builder_WriteByte,go_sem]
 refine(copyCheck_res H.strings_Builder_copyCheck hx.wf h2 h3).mono ?_
 rintro _ s1 ⟨f1,g1⟩
 have x1:Ext st0 s1:=hx.frm f1 (by simpa using h1)
 have g4:=h4.frm f1 hx.wf (by intro n hn h;simp at h;subst h;exact h5 hn)
 have hr:rdCell s1.h q 1=some v:=by simp[rdCell,g1]
 simp[go_sem,RO.run,NO.run,hr,reps]
 refine(g4.push x1.nx x1.wf (k:=1) (by omega) (c:=c) hl).mono ?_
 rintro v2 s2 ⟨o2,f2⟩
 have x2:=x1.frm f2 h4.ge
 have g2:hget s2.h q=some (.cells 84 false [.ptr q 0,v]):=f2.get x1.wf g1 h5
 have hw2:wrCells s2.h q 1 [v2]=some (hset s2.h q (.cells 84 false [.ptr q 0,v2])):=wr_cells g2 o2.sc (by simp)
 have f3:=Frm.set x2.wf g2 (o:= .cells 84 false [.ptr q 0,v2])
 have hap:=o2.apart g2 (x:= .ptr q 0) (by simp) (by simp)
 have g3:=hget_hset_self (o:= .cells 84 false [.ptr q 0,v2]) g2
 simp[go_sem,WO.run,o2.acells,hw2]
 have x3:Ext st0 ⟨hset s2.h q (.cells 84 false [.ptr q 0,v2]),s2.nx⟩:=x2.frm f3 (by simpa using h1)
 have o3:Grow st0 ⟨hset s2.h q (.cells 84 false [.ptr q 0,v2]),s2.nx⟩ v2 (l++[c]):=o2.frm f3 x2.wf (by intro n hn h;simp at h;subst h;exact hap hn)
 refine⟨?_,h1,_,v2,hget_dropLoc_keep x3.wf g3 rfl,.inr rfl,o3.dropLoc x3.wf,hap⟩
 exact x3.dropGe hx.nx
theorem writeByte_at (H:B.H_strings_Builder_WriteByte T) {st0:St} (hx:Ext st0 st) {q:Nat} {l:List UInt8} (c:UInt8) {n:Int} (hn:n=(c.toNat:Int)) (b:Bd st0 st q l) (hl:l.length<35184372088831):
  CRes (call T (.fn 91 [] []) [.ptr q 0,.int .u8 n] st) fun _ s'=>Ext st0 s'∧Bd st0 s' q (l++[c]):=by
 rw[hn];exact writeByte_res H hx b hl
theorem toBytes_u8s:∀l:List UInt8,toBytes (u8s l)=some l
 | []=>rfl
 | c::l=>by
   have h:u8s (c::l)= .int .u8 (c.toNat:Int)::u8s l:=rfl
   rw[h]
   simp[toBytes,toBytes_u8s l]
theorem string_res (H:B.H_strings_Builder_String T) {st0:St} (hx:Ext st0 st) {q:Nat} {l:List UInt8} (b:Bd st0 st q l) (hl:1≤l.length) (hl2:l.length<4000000000000000000):
  CRes (call T (.fn 92 [] []) [.ptr q 0] st) fun v s'=>v= .str l∧Ext st0 s':=by
 obtain⟨h1,a,v,h2,h3,h4,h5⟩:=b
 refine call_res H.e H.f rfl ?_
 have hr:rdCell st.h q 1=some v:=by simp[rdCell,h2]
 obtain⟨⟨m,hs⟩,h6,h7⟩:=h4
 rcases hs with ⟨k1,k2,k3⟩ | ⟨k1,k2,k3⟩ | ⟨ty',k1,k2,k3⟩
 ·omega
 ·subst k1
  have xa:=hx.trans (Ext.aside hx.wf 12)
  have hm:=h6 m (by simp[AV.nms])
  simp at hm
  have f:=Frm.hdel (st:=⟨st.h,st.nx+12⟩) xa.wf m
  have x2:=xa.frm f (by simpa using hm)
  simp only[u8s_len]at k3
  simp[B.strings_Builder_String,go_sem,RO.run,WO.run,hr,hl,k2,u8s_len,toBytes_u8s,show l.length≤9223372036854775807 by omega]
  exact x2.dropGe hx.nx
 ·subst k1
  exact absurd rfl (h7 _ _ _ _)
end Go.Ev

/- Unquote: the source's steps. -/
namespace Go.Ev
open Go
variable {T : Tab} {st : St}
def octN:Nat→Nat→List UInt8→Nat×Nat
 | 0,n,_=>(n,0)
 | k+1,n,c::r=>if 48≤c.toNat∧c.toNat≤55 then((octN k (8*n+(c.toNat - 48)) r).1,(octN k (8*n+(c.toNat - 48)) r).2+1)else(n,0)
 | _+1,n,[]=>(n,0)
def lineN (c:UInt8) (r:List UInt8):Nat:=if c=13∧r.head? =some 10 then 1 else 0
def letter (c:UInt8):Option UInt8:=if c=110 then some 10 else if c=114 then some 13 else if c=116 then some 9 else if c=98 then some 8 else if c=102 then some 12 else none
def esc:List UInt8→Option (List UInt8×Nat)
 | []=>none
 | c::r=>some (match letter c with
   | some o=>([o],1)
   | none=>if c=10∨c=13 then([],1+lineN c r)else if 48≤c.toNat∧c.toNat≤55 then([UInt8.ofNat (octN 2 (c.toNat - 48) r).1],1+(octN 2 (c.toNat - 48) r).2)else([c],1))
def unq:Nat→Nat→List UInt8→List UInt8→Option (List UInt8×List UInt8)
 | 0,_,_,_=>none
 | _+1,_,[],_=>none
 | f+1,d,c::r,out=>
   if c=92 then match esc r with
    | none=>none
    | some (o,n)=>unq f d (r.drop n) (out++o)
   else if c=40 then unq f (d+1) r (out++[40])
   else if c=41 then if d=1 then some (out,r)else unq f (d - 1) r (out++[41])
   else if c=10∨c=13 then unq f d (r.drop (lineN c r)) (out++[10])
   else unq f d r (out++[c])
end Go.Ev

/- Unquote told. -/
namespace Go.Ev
open Go
variable {T : Tab} {st : St}
def unquoteT (s:List UInt8):List UInt8×Nat×Int:=
 match s with
 | c::r=>if c=40 then match unq s.length 1 r []with
    | none=>([],0,5)
    | some (o,l)=>if 1000<o.length then([],0,26)else(o,s.length - l.length,0)
   else([],0,5)
 | []=>([],0,5)
def toU (t:List UInt8×Nat×Int):AV:= .tuple [.str t.1,.int .i64 (t.2.1:Int),.int .i64 t.2.2]
end Go.Ev

/- Valid tokens; Check. -/
namespace Go.Ev
open Go
variable {T : Tab} {st : St}
theorem is110_tells (H:B.H_real_Is T) (hwf:st.Wf) {n:Int}:Tells T st (.fn 110 [] []) [.int .i64 n] (.bool (decide (-2147483648≤n) && decide (n≤2147483648))):=by
 refine tells_of H.e H.f rfl ?_
 by_cases h: -2147483648≤n
 ·simp[B.real_Is,go_sem,h,Ext.refl hwf]
 ·simp[B.real_Is,go_sem,h,Ext.refl hwf]
def namedT (k:Int) (t:List UInt8):Bool:=decide (t.length≤100) && regAll t && (decide (k≠3) || (!(t == []) && decide ((numT t).2.2=5)))
def markT (k n:Int) (t:List UInt8):Bool:=decide (k=3) && (decide (n=0) && ((t == [91]) || (t == [93]) || (t == [60,60]) || (t == [62,62])))
def rightT (k n:Int) (t:List UInt8):Bool:=
 if k=1 then decide (-2147483648≤n) && decide (n≤2147483647) && (t == [])
 else if k=2 then decide (-2147483648≤n) && decide (n≤2147483648) && (t == [])
 else if k=3∨k=4∨k=5 then markT k n t || (decide (n=0) && namedT k t)
 else if k=6 then decide (n=0) && decide (t.length≤1000)
 else(decide (k=7) || decide (k=8)) && (decide (n=0) && (t == []))
end Go.Ev

/- The chapter's examples. -/
namespace Go.Ev
open Go
variable {T : Tab} {st : St}
end Go.Ev

/- LexKnown told. -/
namespace Go.Ev
open Go
variable {T : Tab} {st : St}
end Go.Ev

/- LexNests told. -/
namespace Go.Ev
open Go
variable {T : Tab} {st : St}
end Go.Ev

/- Octets among the arguments: what they are, and the names of their blocks. -/
namespace Go.Ev
open Go Go.RowKit Go.ChangeShapes Go.WideShapes Go.Deep Go.Joins
theorem stNone_wf (n:Nat):St.Wf ⟨[],n⟩:=⟨(fun n o h=>by cases h),(by simp)⟩
section
variable {H : Type} {enc : TypeId × Value → H} {P : Program} {w : World} {base : Nat} {spare : Nat → Bool} {held : Bool}
end
end Go.Ev

/- The reference's Unquote: its parts. -/
namespace Go.Ev
open Go
variable {T : Tab} {st : St}
end Go.Ev

/- The reference's Unquote told. -/
namespace Go.Ev
open Go
variable {T : Tab} {st : St}
end Go.Ev

/- The reference's Quote; LexQuotes told. -/
namespace Go.Ev
open Go
variable {T : Tab} {st : St}
end Go.Ev

/- The reference's reader of decimals. -/
namespace Go.Ev
open Go
variable {T : Tab} {st : St}
def mant:Bool→List UInt8→List Nat×Nat×List UInt8
 | _,[]=>([],0,[])
 | pt,c::r=>
   if isDig c=true then((c.toNat - 48)::(mant pt r).1,(if pt=true then 1 else 0)+(mant pt r).2.1,(mant pt r).2.2)
   else if c=46∧pt=false then mant true r
   else([],0,c::r)
end Go.Ev

/- The reference's Read told. -/
namespace Go.Ev
open Go
variable {T : Tab} {st : St}
def MCode.a:MCode→MCode
 | .seq x _=>x
 | c=>c
def MCode.b:MCode→MCode
 | .seq _ y=>y
 | c=>c
theorem ab_seq (x y:MCode):(MCode.seq x y).a=x∧(MCode.seq x y).b=y:=⟨rfl,rfl⟩
def rb:Nat→MCode
 | 0=>B.chaseref01_Read.body
 | k+1=>(rb k).b
theorem cut {T:Tab} {c:MCode} (hc:c= .seq c.a c.b) (hA:∀l,c.a≠.keep l) {e:Env} {Q:Ex→Env→St→Prop} (P:Ex→Env→St→Prop) (h1:Res (run T c.a e st) P) (h2:∀x e s,P x e s→kSeq T c.b Q x e s):Res (run T c e st) Q:=by
 rw[hc]
 exact seq_cut P hA h1 h2
end Go.Ev

/- Digits multiplied. -/
namespace Go.Ev
open Go
variable {T : Tab} {st : St}
theorem div10 (N:Nat):(N:Int).tmod 10=((N % 10:Nat):Int)∧(N:Int).tdiv 10=((N / 10:Nat):Int):=by
 refine⟨?_,?_⟩
 ·rw[Int.tmod_eq_emod_of_nonneg (by omega)];omega
 ·rw[Int.tdiv_eq_ediv_of_nonneg (by omega)];omega
end Go.Ev

/- The reference's Parse told. -/
namespace Go.Ev
open Go
variable {T : Tab} {st : St}
end Go.Ev

/- The reference's Number. -/
namespace Go.Ev
open Go
variable {T : Tab} {st : St}
def nb:Nat→MCode
 | 0=>B.chaseref03_Number.body
 | k+1=>(nb k).b
end Go.Ev

/- The reference's Word told. -/
namespace Go.Ev
open Go
variable {T : Tab} {st : St}
end Go.Ev

/- The plain law of numbers: ints, with and without a base. -/
namespace Go.Ev
open Go
end Go.Ev

/- The plain law of numbers: decimals are read alike. -/
namespace Go.Ev
open Go
end Go.Ev

/- The plain law of numbers: a decimal without a point or an exponent is an int. -/
namespace Go.Ev
open Go
end Go.Ev

/- The plain law of numbers: a text whose runs of digits are cut to one digit is a decimal if the whole text is. -/
namespace Go.Ev
open Go
end Go.Ev

/- The plain law of numbers: values. -/
namespace Go.Ev
open Go
end Go.Ev

/- LexNumbers: the marks, drawn into a text. -/
namespace Go.Ev
open Go
variable {T : Tab} {st : St}
end Go.Ev

/- LexNumbers told, if Number and Word are the reference's. -/
namespace Go.Ev
open Go
variable {T : Tab} {st : St}
end Go.Ev

/- The plain law of numbers: the mark's decimals and the reference's. -/
namespace Go.Ev
open Go
end Go.Ev

/- The abstract bodies of the functions, printed by a program of this work. -/
namespace Go.Ev.B
open Go
def chaseref03_Draft_Token_l0:MCode:=(.seq (.keep [1,2,3,4,5]) (.seq (.seq (.reg [p 37 (.mov 5),p 38 (.faddr 2 1),r 39 (.load none 38),p 40 (.lenOf true 39),p 41 (.bin .lss
 37 40),p 42 (.mov 41),pg 43 42 true (.mov 5),pg 44 42 true (.bin .lss 43 (.k (.int .i64 20))),p 45 (.pick 42 44 (.k (.bool false)))]) (.cond 45 .skip (.exit 1))) (.seq (.keep [1,
 2,3,4,5]) (.seq (.block 2 (.seq (.reg [p 48 (.faddr 2 1),r 49 (.load none 48),p 50 (.mov 5),p 51 (.idxS 49 50),w 52 (.call (.k (.fn 68 [] [])) [51])]) (.cond 52 (.reg [p 53 (.mov
 4),p 54 (.faddr 2 1),r 55 (.load none 54),p 56 (.mov 5),p 57 (.idxS 55 56),n 58 (.buildSl 5 1 [(.int .u8 0)] [(0,1,57)]),w 59 (.append 5 1 1 [(.int .u8 0)] 53 58),p 4 (.mov
 59)]) .skip))) (.seq (.keep [1,2,3,4,5]) (.reg [p 46 (.mov 5),p 47 (.bin .add 46 (.k (.int .i64 1))),p 5 (.mov 47)]))))))
def chaseref03_Draft_Token:MFun:=⟨1,[.cell 2 (some 3)],(.seq (.reg [n 1 (.box 205 true 0),n 2 (.alloc 134 true [(.int .i64 0),(.int .i64 0),(.str [])])]) (.seq (.reg [p 7 (.faddr
 0 1),r 8 (.load none 7),p 9 (.bin .rem 8 (.k (.int .u8 8))),p 10 (.conv .i64 9),p 11 (.bin .add (.k (.int .i64 1)) 10),p 3 (.mov 11)]) (.seq (.seq (.reg [p 12 (.mov 3)]) (.block
 0 (.seq (.seq (.reg [p 14 (.bin .eql 12 (.k (.int .i64 1))),p 13 (.mov 14)]) (.cond 13 .skip (.reg [p 15 (.bin .eql 12 (.k (.int .i64 2))),p 13 (.mov 15)]))) (.cond 13 (.seq (.reg
 [p 16 (.mov 3),p 17 (.faddr 1 1),r 18 (.load none 17),p 19 (.conv .i64 18),p 20 (.build [(.int .i64 0),(.int .i64 0),(.str [])] [(0,1,16),(1,1,19)]),w0 (.store 3 2 20)])
 .ret) (.seq (.reg [p 22 (.bin .eql 12 (.k (.int .i64 6))),p 21 (.mov 22)]) (.cond 21 (.seq (.reg [p 23 (.mov 3),p 24 (.faddr 2 1),r 25 (.load none 24),p 26 (.faddr 2 1),r 27 (.load
 none 26),p 28 (.lenOf true 27),p 29 (.minmax false [28,(.k (.int .i64 60))]),p 30 (.subS 25 none (some 29)),p 31 (.build [(.int .i64 0),(.int .i64 0),(.str [])] [(0,1,23),
 (2,1,30)]),w0 (.store 3 2 31)]) .ret) (.seq (.seq (.reg [p 33 (.bin .eql 12 (.k (.int .i64 7))),p 32 (.mov 33)]) (.cond 32 .skip (.reg [p 34 (.bin .eql 12 (.k (.int .i64 8))),p
 32 (.mov 34)]))) (.cond 32 (.seq (.reg [p 35 (.mov 3),p 36 (.build [(.int .i64 0),(.int .i64 0),(.str [])] [(0,1,35)]),w0 (.store 3 2 36)]) .ret) .skip)))))))) (.seq (.keep [1,
 2,3]) (.seq (.reg [p 4 (.mov (.k .nilslice))]) (.seq (.seq (.reg [p 5 (.mov (.k (.int .i64 0)))]) (.block 1 (.loop chaseref03_Draft_Token_l0))) (.seq (.keep [1,2,3,4]) (.seq (.reg
 [p 60 (.mov 3),p 61 (.mov 4),r 62 (.b2s 61),p 63 (.build [(.int .i64 0),(.int .i64 0),(.str [])] [(0,1,60),(2,1,62)]),n 6 (.alloc 134 true [(.int .i64 0),(.int .i64 0),
 (.str [])]),w0 (.store 3 6 63)]) (.seq (.seq (.reg [p 64 (.mov 3),p 65 (.bin .eql 64 (.k (.int .i64 3))),p 66 (.mov 65),rg 67 66 true (.load (some 3) 6),wg 68 66 true (.call (.k
 (.fn 129 [] [])) [67]),pg 69 66 true (.un .not 68),p 70 (.pick 66 69 (.k (.bool false)))]) (.cond 70 (.reg [n 71 (.buildSl 9 7 [(.str []),(.str []),(.str []),(.str []),(.str []),
 (.str []),(.str [])] [(0,1,(.k (.str [97]))),(1,1,(.k (.str [91]))),(2,1,(.k (.str [93]))),(3,1,(.k (.str [60,60]))),(4,1,(.k (.str [62,62]))),(5,1,(.k (.str [120,
 45,49]))),(6,1,(.k (.str [61])))]),p 72 (.faddr 0 1),r 73 (.load none 72),p 74 (.bin .quo 73 (.k (.int .u8 8))),p 75 (.bin .rem 74 (.k (.int .u8 7))),p 76 (.iaddrS 1 71 75),
 r 77 (.load none 76),p 78 (.faddr 2 6),w0 (.store 1 78 77)]) .skip)) (.seq (.keep [2,6]) (.seq (.reg [r 79 (.load (some 3) 6),w0 (.store 3 2 79)]) .ret)))))))))))⟩
def real_Print:MFun:=⟨1,[.t 2,.t 3],(.seq (.reg [n 1 (.box 3 true 0),p 2 (.mov (.k (.str []))),p 3 (.mov (.k (.int .i64 0)))]) (.seq (.reg [p 4 (.mkfn 136 [] [1]),r 5 (.load
 none 1),n 6 (.buildSl 3 1 [(.int .i64 0)] [(0,1,5)]),w 7 (.call (.k (.fn 137 [] [])) [4,6]),p 8 (.extr 0 7),p 9 (.extr 1 7),p 2 (.mov 8),p 3 (.mov 9)]) .ret))⟩
def real_Print_1_l0:MCode:=(.block 1 (.reg [p 19 (.mov 6),w 20 (.call (.k (.fn 91 [] [])) [4,19])]))
def real_Print_1_l1:MCode:=(.seq (.keep [4,7,8]) (.seq (.seq (.reg [p 24 (.mov 7),p 25 (.bin .gtr 24 (.k (.int .i64 0))),p 26 (.mov 25),pg 27 26 false (.mov 8),p 28 (.pick
 26 (.k (.bool true)) 27)]) (.cond 28 .skip (.exit 2))) (.seq (.block 3 (.seq (.reg [p 29 (.mov 7),p 30 (.bin .mul 29 (.k (.int .i64 10))),p 7 (.mov 30)]) (.seq (.reg [p 31 (.mov 7),
 p 32 (.bin .quo 31 (.k (.int .i64 65536))),p 33 (.conv .u8 32),p 34 (.bin .add (.k (.int .u8 48)) 33),w 35 (.call (.k (.fn 91 [] [])) [4,34])]) (.reg [p 36 (.mov 7),p 37 (.bin
 .rem 36 (.k (.int .i64 65536))),p 7 (.mov 37)])))) (.seq (.keep [4,7]) (.reg [p 8 (.mov (.k (.bool false)))])))))
def real_Print_1:MFun:=⟨1,[.t 1,.t 2,.t 3],(.seq (.reg [p 1 (.mov (.k (.str []))),p 2 (.mov (.k (.int .i64 0))),p 3 (.mov (.k (.int .i64 0)))]) (.seq (.reg [n 4 (.alloc 84
 false [.nilptr,.nilslice])]) (.seq (.reg [r 9 (.load none 0),p 5 (.mov 9)]) (.seq (.seq (.reg [p 10 (.mov 5),p 11 (.bin .lss 10 (.k (.int .i64 0)))]) (.cond 11 (.seq (.reg [w 12
 (.call (.k (.fn 91 [] [])) [4,(.k (.int .u8 45))])]) (.reg [p 13 (.mov 5),p 14 (.un .neg 13),p 5 (.mov 14)])) .skip)) (.seq (.seq (.reg [p 15 (.mov 5),p 16 (.bin .quo 15 (.k (.int
 .i64 65536))),w 17 (.call (.k (.fn 138 [] [])) [16])]) (.block 0 (.rangeFunc 17 [18] (.reg [p 6 (.mov 18)]) real_Print_1_l0))) (.seq (.keep [4,5]) (.seq (.reg [w 21 (.call (.k (.fn
 91 [] [])) [4,(.k (.int .u8 46))])]) (.seq (.seq (.reg [p 22 (.mov 5),p 23 (.bin .rem 22 (.k (.int .i64 65536))),p 7 (.mov 23),p 8 (.mov (.k (.bool true)))]) (.block 2 (.loop real_Print_1_l1)))
 (.seq (.keep [4]) (.seq (.reg [w 38 (.call (.k (.fn 92 [] [])) [4]),p 1 (.mov 38),p 2 (.mov (.k (.int .i64 0))),p 3 (.mov (.k (.int .i64 0)))]) .ret))))))))))⟩
def real_result_string_l0:MCode:=(.seq (.keep [0,4,10,11,12]) (.seq (.reg [p 13 (.bin .lss 12 11)]) (.seq (.cond 13 .skip (.exit 0)) (.seq (.block 1 (.seq (.reg [p 14 (.iaddrS
 1 10 12),r 15 (.load none 14),p 7 (.mov 15)]) (.seq (.reg [p 16 (.mov 7),w 17 (.call (.k (.fn 110 [] [])) [16]),p 18 (.un .not 17)]) (.cond 18 (.seq (.reg [p 19 (.mov 4),p 4 (.mov
 19),p 5 (.mov (.k (.int .i64 2)))]) .ret) .skip)))) (.seq (.keep [0,4,10,11,12]) (.reg [p 20 (.bin .add 12 (.k (.int .i64 1))),p 12 (.mov 20)]))))))
def real_result_string:MFun:=⟨2,[.t 4,.t 5],(.seq (.reg [p 4 (.mov (.k (.str []))),p 5 (.mov (.k (.int .i64 0)))]) (.seq (.seq (.reg [p 10 (.mov 1),p 11 (.lenOf false 10),
 p 12 (.mov (.k (.int .i64 0)))]) (.block 0 (.loop real_result_string_l0))) (.seq (.keep [0,4]) (.seq (.reg [p 22 (.mov 0),w 23 (.call 22 []),p 21 (.mov 23),p 24 (.extr 0 21),p
 25 (.extr 1 21),p 26 (.extr 2 21),p 8 (.mov 24),p 9 (.mov 25),p 5 (.mov 26)]) (.seq (.keep [4,5,8,9]) (.seq (.seq (.reg [p 27 (.mov 5),p 28 (.bin .eql 27 (.k (.int .i64 0))),
 p 29 (.mov 28),pg 30 29 true (.mov 9),wg 31 29 true (.call (.k (.fn 110 [] [])) [30]),pg 32 29 true (.un .not 31),p 33 (.pick 29 32 (.k (.bool false)))]) (.cond 33 (.reg [p 5 (.mov
 (.k (.int .i64 25)))]) .skip)) (.seq (.keep [4,5,8]) (.seq (.seq (.reg [p 34 (.mov 5),p 35 (.bin .neq 34 (.k (.int .i64 0)))]) (.cond 35 (.seq (.reg [p 36 (.mov 4),p 37 (.mov 5),
 p 4 (.mov 36),p 5 (.mov 37)]) .ret) .skip)) (.seq (.reg [p 38 (.mov 8),p 4 (.mov 38),p 5 (.mov (.k (.int .i64 0)))]) .ret)))))))))⟩
def real_whole:MFun:=⟨1,[.t 2],(.seq (.reg [n 1 (.box 3 false 0),p 2 (.mov (.k .nilfn))]) (.seq (.reg [p 3 (.mkfn 139 [] [1]),p 2 (.mov 3)]) .ret))⟩
def real_whole_1_l0:MCode:=(.seq (.keep [0,1,3]) (.seq (.seq (.reg [r 4 (.load none 1),p 5 (.mov 3),p 6 (.bin .quo 4 5),p 7 (.bin .geq 6 (.k (.int .i64 10)))]) (.cond 7 .skip
 (.exit 0))) (.block 1 (.reg [p 8 (.mov 3),p 9 (.bin .mul 8 (.k (.int .i64 10))),p 3 (.mov 9)]))))
def real_whole_1_l1:MCode:=(.seq (.keep [0,1,3]) (.seq (.seq (.reg [p 10 (.mov 3),p 11 (.bin .gtr 10 (.k (.int .i64 0)))]) (.cond 11 .skip (.exit 2))) (.seq (.block 3 (.seq (.reg
 [p 14 (.mov 0),r 15 (.load none 1),p 16 (.mov 3),p 17 (.bin .quo 15 16),p 18 (.bin .rem 17 (.k (.int .i64 10))),p 19 (.conv .u8 18),p 20 (.bin .add (.k (.int .u8 48)) 19),w 21
 (.call 14 [20]),p 22 (.un .not 21)]) (.cond 22 .ret .skip))) (.seq (.keep [0,1,3]) (.reg [p 12 (.mov 3),p 13 (.bin .quo 12 (.k (.int .i64 10))),p 3 (.mov 13)])))))
def real_whole_1:MFun:=⟨2,[],(.seq (.reg [p 3 (.mov (.k (.int .i64 1)))]) (.seq (.block 0 (.loop real_whole_1_l0)) (.seq (.keep [0,1,3]) (.block 2 (.loop real_whole_1_l1)))))⟩
structure H_strconv_Itoa (T:Tab):Prop where
 en:T.en 132=some E_strconv_Itoa
structure H_real_whole_1 (T:Tab):Prop where
 e:T.en 139=none
 f:T.fn 139=some real_whole_1
structure H_real_result_string (T:Tab):Prop where
 e:T.en 137=none
 f:T.fn 137=some real_result_string
 real_Is:H_real_Is T
structure H_real_whole (T:Tab):Prop where
 e:T.en 138=none
 f:T.fn 138=some real_whole
 real_whole_1:H_real_whole_1 T
structure H_real_Print_1 (T:Tab):Prop where
 e:T.en 136=none
 f:T.fn 136=some real_Print_1
 strings_Builder_WriteByte:H_strings_Builder_WriteByte T
 real_whole:H_real_whole T
 strings_Builder_String:H_strings_Builder_String T
structure H_real_Print (T:Tab):Prop where
 e:T.en 133=none
 f:T.fn 133=some real_Print
 real_Print_1:H_real_Print_1 T
 real_result_string:H_real_result_string T
end Go.Ev.B

/- The reference's valid tokens. -/
namespace Go.Ev
open Go
variable {T : Tab} {st : St}
end Go.Ev

/- The reference's decimal text of an int. -/
namespace Go.Ev
open Go
variable {T : Tab} {st : St}
theorem decDigits_small {u:Nat} (h:u<10):Lib.decDigits u=[UInt8.ofNat (48+u)]:=by rw[Lib.decDigits,dif_pos h]
theorem decDigits_big {u:Nat} (h:¬u<10):Lib.decDigits u=Lib.decDigits (u / 10)++[UInt8.ofNat (48+u % 10)]:=by rw[Lib.decDigits,dif_neg h]
theorem decDigits_len:∀(k u:Nat),u<10 ^ (k+1)→1≤(Lib.decDigits u).length∧(Lib.decDigits u).length≤k+1
 | 0,u,h=>by rw[decDigits_small (by simpa using h)];simp
 | k+1,u,h=>by
   by_cases h10:u<10
   ·rw[decDigits_small h10];simp
   ·have:=decDigits_len k (u / 10) (by rw[Nat.pow_succ]at h;omega)
    rw[decDigits_big h10,List.length_append,List.length_singleton]
    omega
theorem decDigits_len10 {u:Nat} (h:u≤4294967296):1≤(Lib.decDigits u).length∧(Lib.decDigits u).length≤10:=decDigits_len 9 u (by omega)
theorem digW {d:Nat} (h:d<10):IntKind.u8.wrap (48+(d:Int))=((UInt8.ofNat (48+d)).toNat:Int)∧IntKind.i64.wrap (48+(d:Int))=48+d:=by
 constructor
 ·have:d=0∨d=1∨d=2∨d=3∨d=4∨d=5∨d=6∨d=7∨d=8∨d=9:=by omega
  rcases this with rfl | rfl | rfl | rfl | rfl | rfl | rfl | rfl | rfl | rfl <;> rfl
 ·exact wrap64' (by omega) (by omega)
end Go.Ev

/- Reals as decimals: what both Prints answer; the reference's Print. -/
namespace Go.Ev
open Go
variable {T : Tab} {st : St}
def fracS:Nat→Nat→List UInt8
 | 0,_=>[]
 | k+1,f=>UInt8.ofNat (48+f*10 / 65536)::(if f*10 % 65536=0 then []else fracS k (f*10 % 65536))
def printS (n:Int):List UInt8:=(if n<0 then [45]else [])++(Lib.decDigits (n.natAbs / 65536)++(46::fracS 17 (n.natAbs % 65536)))
theorem fracS_len:∀k f,(fracS k f).length≤k
 | 0,_=>by simp[fracS]
 | k+1,f=>by
   have:=fracS_len k (f*10 % 65536)
   simp only[fracS,List.length_cons]
   split <;> simp <;> omega
theorem frac_dvd {k f:Nat} (hk:1≤k) (hk2:k≤16) (hd:2 ^ (17 - (k+1)) ∣ f):2 ^ (17 - k) ∣ f*10 % 65536:=by
 obtain⟨m,hm⟩:=hd
 have e1:(2:Nat) ^ (17 - k)=2 ^ (17 - (k+1))*2:=by rw[←Nat.pow_succ];congr 1;omega
 have h1:2 ^ (17 - k) ∣ f*10:=⟨m*5,by rw[e1,hm];rw[Nat.mul_assoc,Nat.mul_assoc,←Nat.mul_assoc 2 m 5,Nat.mul_comm 2 m,Nat.mul_assoc m 2 5]⟩
 have h2:2 ^ (17 - k) ∣ 65536:=⟨2 ^ (k - 1),by rw[←Nat.pow_add,show 17 - k+(k - 1)=16 by omega]⟩
 exact(Nat.dvd_mod_iff h2).2 h1
theorem frac_nums {f:Nat} (hf:f<65536):IntKind.i64.wrap ((f:Int)*10)=((f*10:Nat):Int)∧((f*10:Nat):Int).tdiv 65536=((f*10 / 65536:Nat):Int)∧((f*10:Nat):Int).tmod 65536=((f*10 % 65536:Nat):Int)∧
  IntKind.i64.wrap ((f*10 / 65536:Nat):Int)=((f*10 / 65536:Nat):Int)∧f*10 / 65536<10∧f*10 % 65536<65536:=by
 refine⟨by rw[wrap64' (by omega) (by omega)];omega,?_,?_,wrap64' (by omega) (by omega),by omega,by omega⟩
 ·rw[Int.tdiv_eq_ediv_of_nonneg (by omega)];omega
 ·rw[Int.tmod_eq_emod_of_nonneg (by omega)];omega
theorem printS_pos {u:Nat}:printS (u:Int)=Lib.decDigits (u / 65536)++(46::fracS 17 (u % 65536)):=by
 unfold printS;rw[if_neg (by omega)];simp
theorem printS_neg {u:Nat} (h:0<u):printS (-(u:Int))=45::(Lib.decDigits (u / 65536)++(46::fracS 17 (u % 65536))):=by
 unfold printS;rw[if_pos (by omega)];simp
theorem div65536 (u:Nat):(u:Int).tdiv 65536=((u / 65536:Nat):Int)∧(u:Int).tmod 65536=((u % 65536:Nat):Int):=by
 refine⟨?_,?_⟩
 ·rw[Int.tdiv_eq_ediv_of_nonneg (by omega)];omega
 ·rw[Int.tmod_eq_emod_of_nonneg (by omega)];omega
end Go.Ev

/- The canonical texts: the reference's Text. -/
namespace Go.Ev
open Go
variable {T : Tab} {st : St}
end Go.Ev

/- real.Print: the digits ahead of the point are yielded one by one. -/
namespace Go.Ev
open Go
variable {T : Tab} {st : St}
theorem writeByte_frm (H:B.H_strings_Builder_WriteByte T) {st0:St} (hx:Ext st0 st) {q:Nat} {l:List UInt8} (c:UInt8) {n:Int} (hn:n=(c.toNat:Int)) (b:Bd st0 st q l) (hl:l.length<35184372088831):
  CRes (call T (.fn 91 [] []) [.ptr q 0,.int .u8 n] st) fun _ s'=>(Ext st0 s'∧Bd st0 s' q (l++[c]))∧∀m o,m≠q→hget st.h m=some o→(∀ty,o≠.cells ty false (u8s l))→o≠.buf 5 1 (u8s l)→hget s'.h m=some o:=by
 subst hn
 obtain⟨h1,a,v,h2,h3,h4,h5⟩:=b
 refine call_res H.e H.f rfl ?_
 simp[B.strings_Builder_WriteByte,go_sem]
 refine(copyCheck_res H.strings_Builder_copyCheck hx.wf h2 h3).mono ?_
 rintro _ s1 ⟨f1,g1⟩
 have x1:Ext st0 s1:=hx.frm f1 (by simpa using h1)
 have g4:=h4.frm f1 hx.wf (by intro n hn h;simp at h;subst h;exact h5 hn)
 have hr:rdCell s1.h q 1=some v:=by simp[rdCell,g1]
 simp[go_sem,RO.run,NO.run,hr,reps]
 refine(g4.push x1.nx x1.wf (k:=1) (by omega) (c:=c) hl).mono ?_
 rintro v2 s2 ⟨o2,f2⟩
 have x2:=x1.frm f2 h4.ge
 have g2:hget s2.h q=some (.cells 84 false [.ptr q 0,v]):=f2.get x1.wf g1 h5
 have hw2:wrCells s2.h q 1 [v2]=some (hset s2.h q (.cells 84 false [.ptr q 0,v2])):=wr_cells g2 o2.sc (by simp)
 have f3:=Frm.set x2.wf g2 (o:= .cells 84 false [.ptr q 0,v2])
 have hap:=o2.apart g2 (x:= .ptr q 0) (by simp) (by simp)
 have g3:=hget_hset_self (o:= .cells 84 false [.ptr q 0,v2]) g2
 simp[go_sem,WO.run,o2.acells,hw2]
 have x3:Ext st0 ⟨hset s2.h q (.cells 84 false [.ptr q 0,v2]),s2.nx⟩:=x2.frm f3 (by simpa using h1)
 have o3:Grow st0 ⟨hset s2.h q (.cells 84 false [.ptr q 0,v2]),s2.nx⟩ v2 (l++[c]):=o2.frm f3 x2.wf (by intro n hn h;simp at h;subst h;exact hap hn)
 have x4:Ext st0 ⟨Go.Ev.dropLoc st.nx (hset s2.h q (.cells 84 false [.ptr q 0,v2])),s2.nx⟩:=x3.dropGe hx.nx
 refine⟨⟨x4,h1,_,v2,hget_dropLoc_keep x3.wf g3 rfl,.inr rfl,o3.dropLoc x3.wf,hap⟩,?_⟩
 intro m o hmq ho hc hb
 have hm:m∉v.nms:=by
  intro hm
  rcases h4.nms hm with ⟨ty,k⟩ | k
  ·rw[ho]at k;cases k;exact hc ty rfl
  ·rw[ho]at k;cases k;exact hb rfl
 have k1:=f1.get hx.wf ho (by simpa using hmq)
 have k2:=f2.get x1.wf k1 hm
 have k3:=f3.get (st:=⟨_,_⟩) x2.wf k2 (by simpa using hmq)
 show hget (Go.Ev.dropLoc st.nx _) m=_
 rw[hget_dropLoc_lt (hx.wf.lt m o ho)]
 exact k3
theorem whole_call (H:B.H_real_whole T) (hwf:st.Wf) {n:Int} {Q:AV→St→Prop}
  (h:Q (.fn 139 [] [.ptr st.nx 0]) ⟨(st.nx,.cells 3 false [.int .i64 n])::st.h,st.nx+1⟩):
  CRes (call T (.fn 138 [] []) [.int .i64 n] st) Q:=by
 refine call_res H.e H.f rfl ?_
 have hd:dropLoc st.nx ((st.nx,AObj.cells 3 false [.int .i64 n])::st.h)=(st.nx,AObj.cells 3 false [.int .i64 n])::st.h:=by
  have:locNames st.nx ((st.nx,AObj.cells 3 false [.int .i64 n])::st.h)=[]:=by
   simp only[locNames]
   exact locNames_nil fun n o ho=>hwf.lt n o ho
  rw[dropLoc_eq,this,hdrop_nil]
 simp[B.real_whole,go_sem,NO.run,AV.nb,hd]
 exact h
def digsF (n:Nat):Nat→List UInt8
 | 0=>[UInt8.ofNat (48+n % 10)]
 | k+1=>UInt8.ofNat (48+n / 10 ^ (k+1) % 10)::digsF n k
theorem digsF_last (n:Nat):∀k,digsF n (k+1)=digsF (n / 10) k++[UInt8.ofNat (48+n % 10)]
 | 0=>by simp[digsF]
 | k+1=>by
   have:=digsF_last n k
   rw[digsF,this,digsF,Nat.div_div_eq_div_mul,←Nat.pow_succ']
   rfl
theorem digsF_dec:∀(k n:Nat),n<10 ^ (k+1)→(k=0∨10 ^ k≤n)→digsF n k=Lib.decDigits n
 | 0,n,h,_=>by rw[decDigits_small (by simpa using h),digsF,Nat.mod_eq_of_lt (by simpa using h)]
 | k+1,n,h,hk=>by
   have h1:10 ^ (k+1)≤n:=by rcases hk with hk | hk;cases hk;exact hk
   have h2:1≤10 ^ k:=Nat.pow_pos (by omega)
   rw[Nat.pow_succ]at h h1
   rw[digsF_last,decDigits_big (by omega),digsF_dec k (n / 10) (by rw[Nat.pow_succ]at h⊢;omega) (.inr (by omega))]
theorem whole_l0 {n m:Nat} (hn:n≤65536) (hg:hget st.h m=some (.cells 3 false [.int .i64 (n:Int)])) {y:AV}:∀(f j:Nat) (e:Env),j+f=5→(j=0∨10 ^ j≤n)→eget e 0=y→eget e 1= .ptr m 0→eget e 3= .int .i64 ((10 ^ j:Nat):Int)→
  Res (run T (.loop B.real_whole_1_l0) e st) fun x e' s'=>x= .exit 0∧s'=st∧eget e' 0=y∧eget e' 1= .ptr m 0∧∃k,k≤5∧eget e' 3= .int .i64 ((10 ^ k:Nat):Int)∧n<10 ^ (k+1)∧(k=0∨10 ^ k≤n):=by
 intro f
 induction f with
 | zero=>
   intro j e hj hjn g0 g1 g3
   have hj5:j=5:=by omega
   subst hj5
   exfalso
   omega
 | succ f ih=>
   intro j e hj hjn g0 g1 g3
   rw[run_loop]
   have hp:10 ^ (j+1)=10 ^ j*10:=Nat.pow_succ ..
   have hp1:1≤10 ^ j:=Nat.pow_pos (by omega)
   have hp2:10 ^ j≤10 ^ 4:=Nat.pow_le_pow_right (by omega) (by omega)
   have hnext:=ih (j+1)
   have hthis:∀k,k=j→(k=0∨10 ^ k≤n):=fun k h=>h▸hjn
   rw[hp]at hnext
   have hend:n<10 ^ j*10→∃k,k≤5∧10 ^ k=10 ^ j∧n<10 ^ (k+1)∧(k=0∨10 ^ k≤n):=fun h=>⟨j,by omega,rfl,by rw[hp];exact h,hjn⟩
   generalize 10 ^ j=p at*
   have hq:(n:Int).tdiv (p:Int)=((n / p:Nat):Int):=(Int.ofNat_tdiv n p).symm
   have hle:n / p≤n:=Nat.div_le_self n p
   have hd:10≤n / p↔p*10≤n:=by rw[Nat.le_div_iff_mul_le hp1,Nat.mul_comm]
   have hp0:¬(p:Int)=0:=by omega
   have hp0':¬p=0:=by omega
   have wp:IntKind.i64.wrap ((p:Int)*10)=((p*10:Nat):Int):=by rw[wrap64' (by omega) (by omega)];omega
   generalize n / p=q at*
   have wq:IntKind.i64.wrap (q:Int)=(q:Int):=wrap64' (by omega) (by omega)
   by_cases hc:10≤q
   ·have hc':(10:Int)≤q:=by omega
    simp[B.real_whole_1_l0,go_sem,g0,g1,g3,RO.run,rd_one hg,hq,wq,hp0,hp0',hc,hc',wp]
    exact hnext _ (by omega) (.inr (hd.1 hc)) (by simp[go_sem]) (by simp[go_sem]) (by simp[go_sem,wp])
   ·have hc':¬(10:Int)≤q:=by omega
    simp[B.real_whole_1_l0,go_sem,g0,g1,g3,RO.run,rd_one hg,hq,wq,hp0,hp0',hc,hc']
    obtain⟨k,k1,k2,k3,k4⟩:=hend (by omega)
    exact⟨k,k1,by rw[←k2];rfl,k3,k4⟩
theorem whole_l1 {n m:Nat} (hn:n≤65536) {Y:AV} (P:List UInt8→St→Prop) (hg:∀l s,P l s→hget s.h m=some (.cells 3 false [.int .i64 (n:Int)]))
  (hY:∀l s (c:UInt8),P l s→l.length≤10→CRes (call T Y [.int .u8 (c.toNat:Int)] s) fun v s2=>v= .bool true∧P (l++[c]) s2):∀(k:Nat) (l:List UInt8) (e:Env) (st1:St),k≤5→l.length+k≤10→P l st1→eget e 0=Y→eget e 1= .ptr m 0→eget e 3= .int .i64 ((10 ^ k:Nat):Int)→
  Res (run T (.loop B.real_whole_1_l1) e st1) fun x e' s'=>x= .exit 2∧P (l++digsF n k) s':=by
 have step:∀(p:Nat) (l:List UInt8) (e:Env) (st1:St) (Q:Ex→Env→St→Prop),1≤p→p≤100000→l.length≤10→P l st1→eget e 0=Y→eget e 1= .ptr m 0→eget e 3= .int .i64 (p:Int)→
   (∀e' s',P (l++[UInt8.ofNat (48+n / p % 10)]) s'→eget e' 0=Y→eget e' 1= .ptr m 0→eget e' 3= .int .i64 ((p / 10:Nat):Int)→Res (run T (.loop B.real_whole_1_l1) e' s') Q)→
   Res (run T (.loop B.real_whole_1_l1) e st1) Q:=by
  intro p l e st1 Q hp1 hp2 hl hP g0 g1 g3 hfin
  rw[run_loop]
  have hq:(n:Int).tdiv (p:Int)=((n / p:Nat):Int):=(Int.ofNat_tdiv n p).symm
  have hle:n / p≤n:=Nat.div_le_self n p
  have hp0:¬(p:Int)=0:=by omega
  have hp0':¬p=0:=by omega
  have hpp:(0:Int)<p:=by omega
  have hpp':0<p:=by omega
  generalize n / p=q at*
  have wq:IntKind.i64.wrap (q:Int)=(q:Int):=wrap64' (by omega) (by omega)
  obtain⟨hr,_⟩:=div10 q
  obtain⟨_,hs⟩:=div10 p
  have wr:IntKind.u8.wrap ((q % 10:Nat):Int)=((q % 10:Nat):Int):=by
   have:q % 10<10:=Nat.mod_lt _ (by omega)
   generalize q % 10=r at*
   have:r=0∨r=1∨r=2∨r=3∨r=4∨r=5∨r=6∨r=7∨r=8∨r=9:=by omega
   rcases this with rfl | rfl | rfl | rfl | rfl | rfl | rfl | rfl | rfl | rfl <;> rfl
  have ws:IntKind.i64.wrap ((p / 10:Nat):Int)=((p / 10:Nat):Int):=wrap64' (by omega) (by omega)
  obtain⟨w1,_⟩:=digW (Nat.mod_lt q (show 0<10 by omega))
  generalize q % 10=r at*
  generalize p / 10=p2 at*
  generalize UInt8.ofNat (48+r)=c at*
  simp[B.real_whole_1_l1,go_sem,g0,g1,g3,RO.run,rd_one (hg _ _ hP),hq,wq,hp0,hp0',hpp,hpp',hr,wr,w1]
  refine(hY l st1 c hP hl).mono ?_
  rintro v s2 ⟨rfl,hP2⟩
  simp[go_sem,g0,g1,g3,hs,ws]
  exact hfin _ _ hP2 (by simp[go_sem]) (by simp[go_sem]) (by simp[go_sem,hs,ws])
 intro k
 induction k with
 | zero=>
   intro l e st1 _ hl hP g0 g1 g3
   refine step 1 l e st1 _ (by omega) (by omega) (by omega) hP g0 g1 (by simpa using g3) ?_
   intro e' s' hP' k0 k1 k3
   rw[run_loop]
   simp[B.real_whole_1_l1,go_sem,k0,k1,k3]
   rw[Nat.div_one]at hP'
   exact hP'
 | succ k ih=>
   intro l e st1 hk hl hP g0 g1 g3
   have hp1:1≤10 ^ (k+1):=Nat.pow_pos (by omega)
   have hp2:10 ^ (k+1)≤10 ^ 5:=Nat.pow_le_pow_right (by omega) (by omega)
   refine step (10 ^ (k+1)) l e st1 _ hp1 (by omega) (by omega) hP g0 g1 g3 ?_
   intro e' s' hP' k0 k1 k3
   have hp3:10 ^ (k+1) / 10=10 ^ k:=by rw[Nat.pow_succ];omega
   rw[hp3]at k3
   have:=ih (l++[UInt8.ofNat (48+n / 10 ^ (k+1) % 10)]) e' s' (by omega) (by simp;omega) hP' k0 k1 k3
   rw[List.append_assoc]at this
   exact this
theorem whole_yields (H:B.H_real_whole_1 T) {n m:Nat} (hn:n≤65536) {Y:AV} (P:List UInt8→St→Prop) (hg:∀l s,P l s→hget s.h m=some (.cells 3 false [.int .i64 (n:Int)]))
  (hY:∀l s (c:UInt8),P l s→l.length≤10→CRes (call T Y [.int .u8 (c.toNat:Int)] s) fun v s2=>v= .bool true∧P (l++[c]) s2) (hP:P [] st) {Q:St→Prop} (hQ:∀s,P (Lib.decDigits n) s→Q ⟨dropLoc st.nx s.h,s.nx⟩):
  CRes (call T (.fn 139 [] [.ptr m 0]) [Y] st) fun _ s=>Q s:=by
 refine call_any H.e H.f rfl rfl ?_
 simp[B.real_whole_1,go_sem]
 refine(whole_l0 hn (hg _ _ hP) (y:=Y) 5 0 _ rfl (.inl rfl) (by simp[go_sem]) (by simp[go_sem]) (by simp[go_sem])).mono ?_
 rintro x e s ⟨rfl,rfl,k0,k1,k,hk,k3,k4,k5⟩
 simp[go_sem,k0,k1,k3]
 refine(whole_l1 hn P hg hY k [] _ _ hk (by simp;omega) hP (by simp[go_sem]) (by simp[go_sem]) (by simp[go_sem])).mono ?_
 rintro x e s ⟨rfl,hP2⟩
 rw[digsF_dec k n k4 k5]at hP2
 simp[go_sem]
 exact hQ s (by simpa using hP2)
end Go.Ev

/- real.Print told. -/
namespace Go.Ev
open Go
variable {T : Tab} {st : St}
def pb:Nat→MCode
 | 0=>B.real_Print_1.body
 | k+1=>(pb k).b
theorem Bd.frm1 {st0 s s':St} {q m:Nat} {l:List UInt8} {o:AObj} (b:Bd st0 s q l) (f:Frm [m] s s') (hw:s.Wf) (hm:hget s.h m=some o) (h1:∀ty l cs,o≠.cells ty l cs) (h2:∀ty es cs,o≠.buf ty es cs):Bd st0 s' q l:=by
 obtain⟨k1,a,v,k2,k3,k4,k5⟩:=b
 have hq:q≠m:=by rintro rfl;rw[hm]at k2;cases k2;exact h1 _ _ _ rfl
 have hv:∀n∈v.nms,n∉[m]:=by
  intro n hn hnm
  simp at hnm
  subst hnm
  rcases k4.nms hn with ⟨ty,h⟩ | h
  ·rw[hm]at h;cases h;exact h1 _ _ _ rfl
  ·rw[hm]at h;cases h;exact h2 _ _ _ rfl
 exact⟨k1,a,v,f.get hw k2 (by simpa using hq),k3,k4.frm f hw hv,k5⟩
theorem print1_frac (H:B.H_real_Print_1 T) (st0:St):∀(k f:Nat) (first:Bool) (l:List UInt8) (q:Nat) (e:Env) (st1:St),k+1≤17→f<65536→2 ^ (17 - (k+1)) ∣ f→(first=true∨0<f)→(first=true→k=16)→l.length+k≤1000→Ext st0 st1→Bd st0 st1 q l→eget e 4= .ptr q 0→eget e 7= .int .i64 (f:Int)→eget e 8= .bool first→
  Res (run T (.loop B.real_Print_1_l1) e st1) fun x e' s'=>x= .exit 2∧Ext st0 s'∧Bd st0 s' q (l++fracS (k+1) f)∧eget e' 4= .ptr q 0:=by
 intro k
 induction k with
 | zero=>
   intro f first l q e st1 hi hf hd hgo hk hl hx b g4 g7 g8
   obtain⟨m,hm⟩:=hd
   have hf0:f=0:=by
    rw[show (2:Nat) ^ (17 - (0+1))=65536 from rfl]at hm;omega
   exfalso
   rcases hgo with h | h
   ·have:=hk h;omega
   ·omega
 | succ k ih=>
   intro f first l q e st1 hi hf hd hgo hk hl hx b g4 g7 g8
   obtain⟨a1,a2,a3,a4,a5,a6⟩:=frac_nums hf
   obtain⟨w1,w2⟩:=digW a5
   have hdv:=frac_dvd (k:=k+1) (by omega) (by omega) hd
   have hfr:fracS (k+1+1) f=UInt8.ofNat (48+f*10 / 65536)::(if f*10 % 65536=0 then []else fracS (k+1) (f*10 % 65536)):=rfl
   rw[hfr]
   generalize f*10 / 65536=d at*
   generalize f*10 % 65536=r at*
   generalize f*10=t at*
   have wd:IntKind.u8.wrap (d:Int)=(d:Int):=by
    have:d=0∨d=1∨d=2∨d=3∨d=4∨d=5∨d=6∨d=7∨d=8∨d=9:=by omega
    rcases this with rfl | rfl | rfl | rfl | rfl | rfl | rfl | rfl | rfl | rfl <;> rfl
   generalize UInt8.ofNat (48+d)=c at*
   obtain⟨OUT,hO⟩:∃OUT,OUT=l++c::(if r=0 then []else fracS (k+1) r):=⟨_,rfl⟩
   rw[←hO]
   have fin:∀e' s',Ext st0 s'→Bd st0 s' q (l++[c])→eget e' 4= .ptr q 0→eget e' 7= .int .i64 (r:Int)→eget e' 8= .bool false→
     Res (run T (.loop B.real_Print_1_l1) e' s') fun x e' s'=>x= .exit 2∧Ext st0 s'∧Bd st0 s' q OUT∧eget e' 4= .ptr q 0:=by
    intro e' s' hx' b' k4 k7 k8
    by_cases hr:r=0
    ·subst hr
     have hO':OUT=l++[c]:=by rw[hO];simp
     rw[run_loop]
     simp[B.real_Print_1_l1,go_sem,k4,k7,k8,hx',hO',b']
    ·have hO':OUT=(l++[c])++fracS (k+1) r:=by rw[hO,if_neg hr];simp
     rw[hO']
     exact ih r false (l++[c]) q e' s' (by omega) a6 hdv (.inr (by omega)) (by simp) (by simp;omega) hx' b' k4 k7 k8
   rw[run_loop]
   by_cases hf0:0<f
   ·have hf0':(0:Int)<f:=by omega
    simp[B.real_Print_1_l1,go_sem,g4,g7,g8,a1,a2,a3,a4,hf0,hf0',wd,w1]
    refine(writeByte_at H.strings_Builder_WriteByte hx c rfl b (by omega)).mono ?_
    rintro _ s1 ⟨x1,b1⟩
    simp[go_sem,a3]
    exact fin _ _ x1 b1 (by simp[go_sem]) (by simp[go_sem,a3]) (by simp[go_sem])
   ·have hf1:first=true:=by rcases hgo with h | h;exact h;exact absurd h hf0
    subst hf1
    have hf0':¬(0:Int)<f:=by omega
    simp[B.real_Print_1_l1,go_sem,g4,g7,g8,a1,a2,a3,a4,hf0,hf0',wd,w1]
    refine(writeByte_at H.strings_Builder_WriteByte hx c rfl b (by omega)).mono ?_
    rintro _ s1 ⟨x1,b1⟩
    simp[go_sem,a3]
    exact fin _ _ x1 b1 (by simp[go_sem]) (by simp[go_sem,a3]) (by simp[go_sem])
theorem Bd.dropLoc {st0 s:St} {q c:Nat} {l:List UInt8} (b:Bd st0 s q l) (hw:s.Wf):Bd st0 ⟨Go.Ev.dropLoc c s.h,s.nx⟩ q l:=by
 obtain⟨k1,a,v,k2,k3,k4,k5⟩:=b
 exact⟨k1,a,v,hget_dropLoc_keep hw k2 rfl,k3,k4.dropLoc hw,k5⟩
theorem box_not (n:Int) (l:List UInt8):[AV.int .i64 n]≠u8s l:=by
 cases l with
 | nil=>simp[u8s]
 | cons c l=>simp[u8s]
theorem print1_tail (H:B.H_real_Print_1 T) (st0:St) {q u:Nat} {pre:List UInt8} {e:Env} {s1:St} (hu:u≤4294967296) (hpre:pre.length≤1) (hx:Ext st0 s1) (b:Bd st0 s1 q pre) (g4:eget e 4= .ptr q 0) (g5:eget e 5= .int .i64 (u:Int)):
  Res (run T (pb 4) e s1) fun x e' s'=>x= .ret∧Ext st0 s'∧eget e' 1= .str (pre++(Lib.decDigits (u / 65536)++(46::fracS 17 (u % 65536))))∧eget e' 2= .int .i64 0∧eget e' 3= .int .i64 0:=by
 obtain⟨a1,a2⟩:=div65536 u
 have hq:u / 65536≤65536:=by omega
 have hr:u % 65536<65536:=by omega
 have wq:IntKind.i64.wrap ((u / 65536:Nat):Int)=((u / 65536:Nat):Int):=wrap64' (by omega) (by omega)
 generalize u / 65536=n at*
 generalize u % 65536=r at*
 simp only[pb,B.real_Print_1,ab_seq]
 simp[go_sem,g5,a1,wq]
 refine whole_call H.real_whole hx.wf ?_
 simp[go_sem]
 refine res_rangeFunc ?_
 simp[go_sem]
 have hqlt:q<s1.nx:=by
  obtain⟨_,_,_,k2,_⟩:=b
  exact hx.wf.lt _ _ k2
 have hd:=decDigits_len10 (u:=n) (by omega)
 have xa:=Ext.new hx.wf (.cells 3 false [.int .i64 (n:Int)])
 generalize hE:((17,AV.fn 139 [] [.ptr s1.nx 0])::(16,AV.int .i64 (n:Int))::(15,AV.int .i64 (u:Int))::e:Env)=E
 have q4:eget E 4= .ptr q 0:=by rw[←hE];simp[go_sem,g4]
 clear hE
 obtain⟨W,hW⟩:∃W,W=B.real_Print_1_l0:=⟨_,rfl⟩
 rw[←hW]
 generalize hO:(fun st=>AObj.loop st E [18] (MCode.reg [{dst:=some 6,guard:=none,op:=MO.p (PO.mov (AO.t 18))}]) W)=O
 have hOr:AObj.loop .ready E [18] (MCode.reg [{dst:=some 6,guard:=none,op:=MO.p (PO.mov (AO.t 18))}]) W=O .ready:=by rw[←hO]
 have hOb:AObj.loop .busy E [18] (MCode.reg [{dst:=some 6,guard:=none,op:=MO.p (PO.mov (AO.t 18))}]) W=O .busy:=by rw[←hO]
 have on1:∀z ty l cs,O z≠.cells ty l cs:=fun z ty l cs=>by rw[←hO];simp
 have on2:∀z ty es cs,O z≠.buf ty es cs:=fun z ty es cs=>by rw[←hO];simp
 have hOe:∀z,O z=AObj.loop z E [18] (MCode.reg [{dst:=some 6,guard:=none,op:=MO.p (PO.mov (AO.t 18))}]) W:=fun z=>by rw[←hO]
 rw[hOr]
 have xb:=xa.trans (Ext.new xa.wf (O .ready))
 simp only[Nat.add_assoc,Nat.reduceAdd]at xb⊢
 clear hO
 refine(whole_yields H.real_whole.real_whole_1 (n:=n) (m:=s1.nx) hq
  (fun l s=>Ext st0 s∧Bd st0 s q (pre++l)∧hget s.h (s1.nx+1)=some (O .ready)∧hget s.h s1.nx=some (.cells 3 false [.int .i64 (n:Int)])) (fun l s h=>h.2.2.2) ?_
  ⟨hx.trans xb,by simpa using b.ext xb hx.wf,by simp[hget_cons],by simp[hget_cons]⟩ (Q:=fun s=>Ext st0 s∧Bd st0 s q (pre++Lib.decDigits n)∧hget s.h (s1.nx+1)=some (O .ready)) ?_).mono ?_
 ·rintro l s c ⟨k1,k2,k3,k4⟩ hl
  rw[hOe]at k3
  refine cres_yield k3 rfl ?_
  simp[go_sem,k3]
  rw[hOr]at k3
  rw[hOb]
  have y1:Ext st0 ⟨hset s.h (s1.nx+1) (O .busy),s.nx⟩:=k1.setNew k3 (by have:=hx.nx;omega)
  have y2:=k2.frm1 (Frm.set k1.wf k3 (o:=O .busy)) k1.wf k3 (on1 _) (on2 _)
  have y3:=hget_hset_self (o:=O .busy) k3
  have y4:=(hget_hset_ne (m:=s1.nx) (o:=O .busy) k3 (by omega)).trans k4
  refine Res.mono (Q:=fun x _ s2=>x= .norm∧Ext st0 s2∧Bd st0 s2 q (pre++l++[c])∧hget s2.h (s1.nx+1)=some (O .busy)∧hget s2.h s1.nx=some (.cells 3 false [.int .i64 (n:Int)])) ?_ ?_
  ·rw[hW]
   simp[B.real_Print_1_l0,go_sem,q4]
   refine(writeByte_frm H.strings_Builder_WriteByte y1 c rfl y2 (by simp;omega)).mono ?_
   rintro _ s2 ⟨⟨z1,z2⟩,z3⟩
   have w1:=z3 (s1.nx+1) (O .busy) (by omega) y3 (fun ty=>on1 _ _ _ _) (on2 _ _ _ _)
   have w2:=z3 s1.nx _ (by omega) y4 (fun ty h=>by injection h with _ _ h;exact box_not _ _ h) (by simp)
   simp[go_sem,z1,w1,w2]
   simpa using z2
  ·rintro _ _ s2 ⟨rfl,z1,z2,w1,w2⟩
   refine⟨by rw[hOb];exact w1,?_⟩
   show AV.bool true= .bool true∧_
   rw[hOr]
   refine⟨rfl,z1.setNew w1 (by have:=hx.nx;omega),?_,hget_hset_self w1,(hget_hset_ne w1 (by omega)).trans w2⟩
   rw[←List.append_assoc]
   exact z2.frm1 (Frm.set z1.wf w1 (o:=O .ready)) z1.wf w1 (on1 _) (on2 _)
 ·rintro s ⟨k1,k2,k3,k4⟩
  exact⟨k1.dropGe (by have:=hx.nx;simp only;omega),k2.dropLoc k1.wf,by rw[hget_dropLoc_lt (by simp only;omega)];exact k3⟩
 ·rintro _ s ⟨k1,k2,k3⟩
  refine .inl ⟨k3,?_⟩
  have f:=Frm.hdel (st:=s) k1.wf (s1.nx+1)
  have y1:Ext st0 ⟨hdel s.h (s1.nx+1),s.nx⟩:=k1.frm f (by have:=hx.nx;simp;omega)
  have y2:=k2.frm1 f k1.wf k3 (on1 _) (on2 _)
  rw[g4]
  refine(writeByte_at H.strings_Builder_WriteByte y1 46 rfl y2 (by simp;omega)).mono ?_
  rintro _ s2 ⟨x2,b2⟩
  simp[go_sem,g5,a2]
  refine(print1_frac H st0 16 r true _ q _ s2 (by omega) hr (by simp) (.inl rfl) (fun _=>rfl) (by simp;omega) x2 b2 (by simp[go_sem]) (by simp[go_sem]) (by simp[go_sem])).mono ?_
  rintro x e' s3 ⟨rfl,x3,b3,g4'⟩
  have:=fracS_len 17 r
  simp[go_sem,g4']
  refine(string_res H.strings_Builder_String x3 b3 (by simp;omega) (by simp;omega)).mono ?_
  rintro v s4 ⟨rfl,x4⟩
  simp[go_sem]
  exact x4
theorem print1_tells (H:B.H_real_Print_1 T) (hwf:st.Wf) {p:Nat} {n:Int} (hp:hget st.h p=some (.cells 3 true [.int .i64 n])) (h0: -4294967296≤n) (h1:n≤4294967296):Tells T st (.fn 136 [] [.ptr p 0]) [] (.tuple [.str (printS n),.int .i64 0,.int .i64 0]):=by
 refine tells_of H.e H.f rfl ?_
 have hx:=Ext.new hwf (.cells 84 false [.nilptr,.nilslice])
 have hb:Bd st ⟨(st.nx,.cells 84 false [.nilptr,.nilslice])::st.h,st.nx+1⟩ st.nx []:=⟨Nat.le_refl _,.nilptr,.nilslice,by simp[hget_cons],.inl rfl,.nil _ _,by simp[AV.nms]⟩
 have hp0:=hx.get hwf hp
 refine cut (c:=pb 0) rfl (by intro l;simp[pb,B.real_Print_1,ab_seq]) (fun x e' s'=>x= .norm∧s'=st∧eget e' 0= .ptr p 0) ?_ ?_
 ·simp only[pb,B.real_Print_1,ab_seq]
  simp[go_sem]
 rintro _ e1 s1 ⟨rfl,hst,g0⟩
 rw[kSeq_norm,hst]
 clear hst
 refine cut (c:=pb 1) rfl (by intro l;simp[pb,B.real_Print_1,ab_seq]) (fun x e' s'=>x= .norm∧s'=⟨(st.nx,.cells 84 false [.nilptr,.nilslice])::st.h,st.nx+1⟩∧eget e' 0= .ptr p 0∧eget e' 4= .ptr st.nx 0) ?_ ?_
 ·simp only[pb,B.real_Print_1,ab_seq]
  simp[go_sem,NO.run,g0]
 rintro _ e2 s2 ⟨rfl,hst,g0,g4⟩
 rw[kSeq_norm,hst]
 clear hst
 have hp1:rdCell (⟨(st.nx,.cells 84 false [.nilptr,.nilslice])::st.h,st.nx+1⟩:St).h p 0=some (.int .i64 n):=rd_one hp0
 generalize hS:(⟨(st.nx,.cells 84 false [.nilptr,.nilslice])::st.h,st.nx+1⟩:St)=sA at hx hb hp1⊢
 clear hS
 refine cut (c:=pb 2) rfl (by intro l;simp[pb,B.real_Print_1,ab_seq]) (fun x e' s'=>x= .norm∧s'=sA∧eget e' 4= .ptr st.nx 0∧eget e' 5= .int .i64 n) ?_ ?_
 ·simp only[pb,B.real_Print_1,ab_seq]
  simp[go_sem,RO.run,g0,g4,hp1]
 rintro _ e3 s3 ⟨rfl,hst,g4,g5⟩
 rw[kSeq_norm,hst]
 clear hst
 refine cut (c:=pb 3) rfl (by intro l;simp[pb,B.real_Print_1,ab_seq]) (fun x e' s'=>x= .norm∧eget e' 4= .ptr st.nx 0∧∃(u:Nat) (pre:List UInt8),eget e' 5= .int .i64 (u:Int)∧u≤4294967296∧pre.length≤1∧Ext st s'∧Bd st s' st.nx pre∧printS n=pre++(Lib.decDigits (u / 65536)++(46::fracS 17 (u % 65536)))) ?_ ?_
 ·simp only[pb,B.real_Print_1,ab_seq]
  by_cases hn:n<0
  ·obtain⟨u,hu⟩:∃u:Nat,n= -(u:Int):=⟨n.natAbs,by omega⟩
   have e1:IntKind.i64.wrap (-n)=u:=by rw[wrap64' (by omega) (by omega)];omega
   simp[go_sem,g4,g5,hn]
   refine(writeByte_at H.strings_Builder_WriteByte hx 45 rfl hb (by simp)).mono ?_
   rintro _ s1 ⟨x1,b1⟩
   simp[go_sem,g4,g5,e1]
   exact⟨u,rfl,by omega,[45],by simp,x1,by simpa using b1,by rw[hu,printS_neg (by omega)];rfl⟩
  ·obtain⟨u,rfl⟩:=Int.eq_ofNat_of_zero_le (show 0≤n by omega)
   simp[go_sem,g4,g5,hn]
   exact⟨u,rfl,by omega,[],by simp,hx,hb,by rw[printS_pos];rfl⟩
 rintro _ e4 s4 ⟨rfl,g4,u,pre,g5,hu,hpre,x4,b4,hpr⟩
 rw[kSeq_norm,hpr]
 refine(print1_tail H st (q:=st.nx) hu hpre x4 b4 g4 g5).mono ?_
 rintro _ e5 s5 ⟨rfl,x5,k1,k2,k3⟩
 refine⟨.inr rfl,?_⟩
 simp[B.real_Print_1,fresults,resVals,resVal,RO.run,k1,k2,k3,x5]
theorem realPrint_tells (H:B.H_real_Print T) (hwf:st.Wf) {n:Int} (h0: -2147483648≤n) (h1:n≤2147483648):Tells T st (.fn 133 [] []) [.int .i64 n] (.tuple [.str (printS n),.int .i64 0]):=by
 refine tells_of H.e H.f rfl ?_
 have hx:=Ext.new hwf (.cells 3 true [.int .i64 n])
 have hx2:=hx.trans (Ext.new hx.wf (.cells 3 false [.int .i64 n]))
 simp only[Nat.add_assoc,Nat.reduceAdd]at hx2
 have hr:Tells T ⟨(st.nx+1,.cells 3 false [.int .i64 n])::(st.nx,.cells 3 true [.int .i64 n])::st.h,st.nx+2⟩ (.fn 137 [] []) [.fn 136 [] [.ptr st.nx 0],.slice (st.nx+1) 0 1 (.known 1)] (.tuple [.str (printS n),.int .i64 0]):=by
  refine tells_of H.real_result_string.e H.real_result_string.f rfl ?_
  simp[B.real_result_string,go_sem]
  rw[run_loop]
  simp[B.real_result_string_l0,go_sem,RO.run,rdCell,hget_cons]
  refine(is110_tells H.real_result_string.real_Is hx2.wf).use fun s1 x1=> ?_
  simp[go_sem,h0,h1]
  rw[run_loop,show IntKind.i64.wrap 1=1 from rfl]
  simp[B.real_result_string_l0,go_sem]
  have hp:hget s1.h st.nx=some (.cells 3 true [.int .i64 n]):=x1.get hx2.wf (by simp[hget_cons])
  refine(print1_tells H.real_Print_1 x1.wf hp (by omega) (by omega)).use fun s2 x2=> ?_
  simp[go_sem]
  refine(is110_tells H.real_result_string.real_Is x2.wf).use fun s3 x3=> ?_
  simp[go_sem]
  exact(x1.trans x2).trans x3
 simp[B.real_Print,go_sem,NO.run,RO.run,rdCell,hget_cons,Nat.add_assoc]
 refine hr.use fun s1 x1=> ?_
 simp[go_sem]
 exact hx2.trans x1
end Go.Ev

/- lex.Text; the token of a draft. -/
namespace Go.Ev
open Go
variable {T : Tab} {st : St}
def Pow (st:St):Prop:=∃m cs,hget st.h m=some (.glob B.gPow10 cs)∧cs.map B.av64=Lib.pow10Tab.map some
theorem Pow.ext {s:St} (h:Pow st) (x:Ext st s) (hw:st.Wf):Pow s:=by
 obtain⟨m,cs,h1,h2⟩:=h
 exact⟨m,cs,x.get hw h1,h2⟩
theorem itoa_call (H:B.H_strconv_Itoa T) (hp:Pow st) {n:Int} (h0: -9223372036854775808≤n) (h1:n≤9223372036854775807):call T (.fn 132 [] []) [.int .i64 n] st=some (.str (Lib.itoa n),st):=by
 obtain⟨m,cs,k1,k2⟩:=hp
 rw[call_entry H.en]
 simp only[List.nil_append,List.append_nil,B.E_strconv_Itoa]
 rw[if_pos ⟨hasPow_of k1 k2,h0,h1⟩]
def tb:Nat→MCode
 | 0=>B.chaseref03_Draft_Token.body
 | k+1=>(tb k).b
end Go.Ev

/- The token of a draft; LexTexts. -/
namespace Go.Ev
open Go
variable {T : Tab} {st : St}
end Go.Ev

/- LexTexts: the law told. -/
namespace Go.Ev
open Go
variable {T : Tab} {st : St}
end Go.Ev

/- Structs of two numbers and a text among the arguments; a table of the library among the objects. -/
namespace Go.Ev
open Go Go.RowKit Go.ChangeShapes Go.WideShapes Go.Deep Go.Joins
def powAV:List AV:=Lib.pow10Tab.map fun z=> .int .u64 z
theorem vrs_ints {X:Cx} {N:Nu}:∀zs:List Int,VRs X N (zs.map fun z=> .int .u64 z) (zs.map fun z=>Value.int .u64 z)
 | []=>rfl
 | z::zs=>⟨_,_,rfl,rfl,vrs_ints zs⟩
end Go.Ev

/- strings.Join as an entry of the table. -/
namespace Go.Ev
open Go Go.RowKit
variable {X : Cx} {D : ChkD} {T : Tab} {st : St}
namespace B
end B
end Go.Ev

/- The abstract bodies of the functions, printed by a program of this work. -/
namespace Go.Ev.B
open Go
end Go.Ev.B

/- The plain law of LexBack: quoted strings, names and ints are read back. -/
namespace Go.Ev
open Go
end Go.Ev

/- The plain law of bases: digits in any base are read back. -/
namespace Go.Ev
open Go
end Go.Ev

/- The plain law of LexBack: the decimal texts of ints and reals are read back. -/
namespace Go.Ev
open Go
end Go.Ev

/- The plain law of LexBack: what a valid token's text is; texts are distinct. -/
namespace Go.Ev
open Go
end Go.Ev

/- LexBack: the law told. -/
namespace Go.Ev
open Go
variable {T : Tab} {st : St}
end Go.Ev

/- What the functions of ascii tell: octets. -/
namespace Go.Ev
open Go
variable {T : Tab} {st : St}
def blankC (c:UInt8):Bool:=decide (c=0) || (decide (c=9) || (decide (c=10) || (decide (c=12) || (decide (c=13) || decide (c=32)))))
def nibV (c:UInt8):Int:=if 48≤c.toNat∧c.toNat≤57 then(c.toNat:Int) - 48 else if 65≤c.toNat∧c.toNat≤70 then(c.toNat:Int) - 55 else if 97≤c.toNat∧c.toNat≤102 then(c.toNat:Int) - 87 else -1
end Go.Ev

/- What is skipped: white space and comments; the regular characters ahead. -/
namespace Go.Ev
open Go
variable {T : Tab} {st : St}
def runN (p:UInt8→Bool):List UInt8→Nat
 | []=>0
 | c::r=>if p c=true then runN p r+1 else 0
def skp:Bool→List UInt8→Nat
 | _,[]=>0
 | true,c::r=>if c=10∨c=13 then skp false r+1 else skp true r+1
 | false,c::r=>if blankC c=true then skp false r+1 else if c=37 then skp true r+1 else 0
end Go.Ev

/- The reader skips white space and comments. -/
namespace Go.Ev
open Go
variable {T : Tab} {st : St}
end Go.Ev

/- Tokens with a text; numbers out of octets. -/
namespace Go.Ev
open Go
variable {T : Tab} {st : St}
abbrev T3:=(Int×Int×List UInt8)×Nat×Int
def err3 (e:Int):T3:=((0,0,[]),0,e)
def textK (k:Int) (x:List UInt8) (n:Nat):T3:=
 if(k=6∧1000<x.length)∨(k≠6∧100<x.length)then err3 26 else if rightT k 0 x=true then((k,0,x),n,0)else err3 37
end Go.Ev

/- Numbers out of octets. -/
namespace Go.Ev
open Go
variable {T : Tab} {st : St}
def numF (n:Int):List UInt8→Int
 | []=>n
 | c::r=>numF (n*256+c.toNat) r
def numU (s:List UInt8):Int:=numF 0 s
def numS:List UInt8→Int
 | []=>0
 | c::r=>numF (if 128≤c.toNat then -1 else 0) (c::r)
end Go.Ev

/- Binary tokens. -/
namespace Go.Ev
open Go
variable {T : Tab} {st : St}
def fixR (k:Int) (long:Nat) (rest:List UInt8):T3:=if rest.length<long then err3 37 else((k,numS (rest.take long),[]),1+long,0)
def cntR4 (k:Int) (long:Nat) (rest:List UInt8):T3:=
 if rest.length<long then err3 37
 else if(rest.drop long).length<(numU (rest.take long)).toNat then err3 37
 else textK k ((rest.drop long).take (numU (rest.take long)).toNat) (1+long+(numU (rest.take long)).toNat)
def binR (c:UInt8) (rest:List UInt8):T3:=
 if c=128 then fixR 1 4 rest else if c=129 then fixR 1 1 rest else if c=130 then fixR 1 2 rest else if c=131 then fixR 2 4 rest
 else if c=132 then cntR4 6 1 rest else if c=133 then cntR4 6 2 rest else if c=134 then cntR4 4 1 rest else if c=135 then cntR4 3 1 rest else if c=136 then cntR4 5 1 rest
 else err3 37
end Go.Ev

/- The reference's binary tokens. -/
namespace Go.Ev
open Go
variable {T : Tab} {st : St}
end Go.Ev

/- The reference's Unhex. -/
namespace Go.Ev
open Go
variable {T : Tab} {st : St}
def hexG:List UInt8→Nat→List Nat→Option (List Nat×Nat)
 | [],_,_=>none
 | c::r,i,l=>if c=62 then some (l,i+1)else if blankC c=true then hexG r (i+1) l else if nibV c<0 then none else hexG r (i+1) (l++[(nibV c).toNat])
def prs:List Nat→List UInt8
 | []=>[]
 | [a]=>[UInt8.ofNat (16*a)]
 | a::b::r=>UInt8.ofNat (16*a+b)::prs r
def hexT (s:List UInt8):List UInt8×Nat×Int:=
 if 65536<s.length then([],0,3)else match hexG s 0 []with
  | none=>([],0,5)
  | some (l,n)=>(prs l,n,0)
end Go.Ev

/- The reference's Unhex told. -/
namespace Go.Ev
open Go
variable {T : Tab} {st : St}
end Go.Ev

/- Decoders that take octets one by one: what they write to, and the octets that are not blank. -/
namespace Go.Ev
open Go
variable {T : Tab} {st : St}
end Go.Ev
