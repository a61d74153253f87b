/- The reference's Number. -/
import Derived.Test.YthckfhllgpfidaaGreatDoorP06
import Derived.Lib.IndexLaws
import Derived.Test.YthckfhllgpfidaaGreatDoorP04
import Derived.Test.YthckfhllgpfidaaGreatDoorP05
import Derived.Stop.LaidErr
import Derived.Lib.LaidTab
import Derived.SizedLaws
import Derived.Lib.Join
namespace Go.Ev
open Go
set_option linter.unusedSimpArgs false
set_option linter.unusedSectionVars false
set_option linter.unusedVariables false
variable {T : Tab} {st : St}
def tryR (s:List UInt8) (i:Nat):Option Int:=
 if s[i]? =some 35∧2≤cntR 10 (s.take i)∧cntR 10 (s.take i)≤36∧0≤cntR (cntR 10 (s.take i)) (s.drop (i+1))then some (cntR (cntR 10 (s.take i)) (s.drop (i+1)))else none
def numR (s:List UInt8):Tk:=
 if 0≤cntR 10 (unsign s).1 then ansT ((unsign s).2*cntR 10 (unsign s).1) s.length
 else match tryR s 1 with
  | some n=>ansT n s.length
  | none=>match tryR s 2 with
    | some n=>ansT n s.length
    | none=>match readR s with
      | none=>(0,0,5)
      | some _=>if(parseR s).2≠0 then(0,0,26)else(2,(parseR s).1,0)
theorem cntFrom_le (M:Nat) (base:Int):∀(s:List UInt8) (n:Nat),n≤M→∀v,cntFrom M base n s=some v→v≤M
 | [],n,h,v,hv=>by simp[cntFrom]at hv;omega
 | c::s,n,h,v,hv=>by
   simp only[cntFrom]at hv
   split at hv
   ·cases hv
   ·exact cntFrom_le M base s _ (Nat.min_le_right _ _) v hv
theorem cntR_le (base:Int) (s:List UInt8): -1≤cntR base s∧cntR base s≤8589934592:=by
 unfold cntR
 split
 ·omega
 ·split
  ·rename_i n h
   have:=cntFrom_le 8589934592 base s 0 (by omega) n h
   omega
  ·omega
theorem numR_step (H:B.H_chaseref03_Number T) {s:List UInt8} {m:Nat} (hs:s.length<1000000000000) {st0:St} (hn:st0.nx≤m) {i:Nat} (hi:i=1∨i=2) (hil:i<s.length) (hx:Ext st0 st) (hg:hget st.h m=some (.cells 134 true [.int .i64 0,.int .i64 0,.str []])) {e:Env} (g0:eget e 0= .str s) (g2:eget e 2= .ptr m 0) (g7:eget e 7= .int .i64 i) {Q:Ex→Env→St→Prop}
  (hsome:∀n e' s',tryR s i=some n→Ext st0 s'→hget s'.h m=some (.cells 134 true [.int .i64 (ansT n s.length).1,.int .i64 (ansT n s.length).2.1,.str []])→eget e' 2= .ptr m 0→eget e' 3= .int .i64 (ansT n s.length).2.2→Q .ret e' s')
  (hnone:∀e' s',tryR s i=none→Ext st0 s'→hget s'.h m=some (.cells 134 true [.int .i64 0,.int .i64 0,.str []])→eget e' 0= .str s→eget e' 2= .ptr m 0→eget e' 7= .int .i64 ((i+1:Nat):Int)→Res (run T (.loop B.chaseref03_Number_l0) e' s') Q):
  Res (run T (.loop B.chaseref03_Number_l0) e st) Q:=by
 have hi2:(i:Int)≤2:=by omega
 have hil':(i:Int)<s.length:=by omega
 obtain⟨c,hc,hd⟩:=idx_some hil
 have e7:IntKind.i64.wrap ((i:Int)+1)=((i+1:Nat):Int):=wrap64' (by omega) (by omega)
 have hsub:asubS s none (some (.int .i64 (i:Int)))=some (.str (s.take i)):=by rw[asubS_to (by omega) (by omega)];simp
 have hsub2:asubS s (some (.int .i64 ((i+1:Nat):Int))) none=some (.str (s.drop (i+1))):=by rw[asubS_from (by omega) (by omega)];simp
 obtain⟨b,hb⟩:∃b,b=cntR 10 (s.take i):=⟨_,rfl⟩
 have hbl:=cntR_le 10 (s.take i)
 rw[←hb]at hbl
 rw[run_loop]
 simp[B.chaseref03_Number_l0,go_sem,g0,g2,g7,hi2,hil',hsub]
 refine(refcount_tells H.chaseref03_count hx.wf (s:=s.take i) (by rw[List.length_take];omega) (base:=10) (by omega) (by omega)).use fun s1 x1'=> ?_
 have x1:=hx.trans x1'
 have g1:=x1'.get hx.wf hg
 rw[←hb]
 obtain⟨i2,hi3⟩:∃i2,i2=i+1:=⟨_,rfl⟩
 rw[←hi3]at e7 hsub2 hnone
 have hi4:(i2:Int)≤s.length:=by omega
 by_cases h35:c=35
 ·subst h35
  by_cases hb2:2≤b
  ·by_cases hb36:b≤36
   ·have hcnt:=fun(st':St) (hw:st'.Wf)=>refcount_tells (st:=st') H.chaseref03_count hw (s:=s.drop i2) (by rw[List.length_drop];omega) (base:=b) (by omega) hb36
    have htry:tryR s i=if 0≤cntR b (s.drop i2)then some (cntR b (s.drop i2))else none:=by
     simp only[tryR,←hb,←hi3,hc]
     by_cases h:0≤cntR b (s.drop i2) <;> simp[h,hb2,hb36]
    obtain⟨n,hn'⟩:∃n,n=cntR b (s.drop i2):=⟨_,rfl⟩
    rw[←hn']at htry hcnt
    simp[go_sem,hc,hb2,hb36,e7,hsub2]
    refine(hcnt _ x1.wf).use fun s2 x2'=> ?_
    have x2:=x1.trans x2'
    have g2':=x2'.get x1.wf g1
    by_cases hn0:0≤n
    ·rw[if_pos hn0]at htry
     simp[go_sem,hn0,hc,e7,hsub2]
     refine(hcnt _ x2.wf).use fun s3 x3'=> ?_
     have x3:=x2.trans x3'
     have g3':=x3'.get x2.wf g2'
     simp[go_sem]
     refine(refWhole_tells H.chaseref03_whole x3.wf (k:=s.length) (n:=n)).use fun s4 x4'=> ?_
     have x4:=x3.trans x4'
     have g4':=x4'.get x3.wf g3'
     rw[ansS_eq]
     obtain⟨t,ht⟩:∃t,t=ansT n s.length:=⟨_,rfl⟩
     have hso:=fun e' s'=>hsome n e' s' htry
     rw[←ht]at hso⊢
     have f5:=Frm.set x4.wf g4' (o:= .cells 134 true [.int .i64 t.1,.int .i64 t.2.1,.str []])
     simp[go_sem,toA,tokA,tokC,WO.run,tok_wr g4']
     exact hso _ _ (x4.frm f5 (by simpa using hn)) (hget_hset_self g4') (by simp[go_sem]) (by simp[go_sem])
    ·rw[if_neg hn0]at htry
     simp[go_sem,hn0,e7]
     exact hnone _ _ htry x2 g2' (by simp[go_sem]) (by simp[go_sem]) (by simp[go_sem,e7])
   ·have htry:tryR s i=none:=by simp[tryR,←hb,hb36]
    simp[go_sem,hc,hb2,hb36,e7]
    exact hnone _ _ htry x1 g1 (by simp[go_sem]) (by simp[go_sem]) (by simp[go_sem,e7])
  ·have htry:tryR s i=none:=by simp[tryR,←hb,hb2]
   simp[go_sem,hc,hb2,e7]
   exact hnone _ _ htry x1 g1 (by simp[go_sem]) (by simp[go_sem]) (by simp[go_sem,e7])
 ·have n1:¬(c.toNat:Int)=35:=u8_ne h35 rfl
  have m1:¬c.toNat=35:=by omega
  have htry:tryR s i=none:=by simp[tryR,hc,h35]
  simp[go_sem,hc,n1,m1,e7]
  exact hnone _ _ htry x1 g1 (by simp[go_sem]) (by simp[go_sem]) (by simp[go_sem,e7])
def nb:Nat→MCode
 | 0=>B.chaseref03_Number.body
 | k+1=>(nb k).b
theorem unsign_cases (s:List UInt8):unsign s=match s with
  | []=>([],1)
  | c::r=>if c=45 then(r, -1)else if c=43 then(r,1)else(c::r,1):=by
 cases s with
 | nil=>rfl
 | cons c r=>
   by_cases h:c=45
   ·subst h;rfl
   ·by_cases h':c=43
    ·subst h';rfl
    ·simp only[if_neg h,if_neg h']
     unfold unsign
     split
     ·rename_i heq;injection heq with a;exact absurd a h
     ·rename_i heq;injection heq with a;exact absurd a h'
     ·rfl
theorem number_sign {s:List UInt8} (hs:s.length<1000000000000) {m:Nat} {e:Env} (g0:eget e 0= .str s) (g2:eget e 2= .ptr m 0) (g4:eget e 4= .str s) (g5:eget e 5= .int .i64 1):
  Res (run T (nb 2).a e st) fun x e' s'=>x= .norm∧s'=st∧eget e' 0= .str s∧eget e' 2= .ptr m 0∧eget e' 4= .str (unsign s).1∧eget e' 5= .int .i64 (unsign s).2:=by
 rw[unsign_cases]
 simp only[nb,B.chaseref03_Number,ab_seq]
 cases s with
 | nil=>simp[go_sem,g0,g2,g4,g5,seq8_eq]
 | cons c r=>
   have hsub:asubS (c::r) (some (.int .i64 1)) none=some (.str r):=by rw[asubS_from (by omega) (by simp;omega)];simp
   by_cases h45:c=45
   ·subst h45
    simp[go_sem,g0,g2,g4,g5,seq8_eq,hsub]
   ·by_cases h43:c=43
    ·subst h43
     simp[go_sem,g0,g2,g4,g5,seq8_eq,hsub]
    ·have n1:¬(c.toNat:Int)=45:=u8_ne h45 rfl
     have n2:¬(c.toNat:Int)=43:=u8_ne h43 rfl
     have m1:¬c.toNat=45:=by omega
     have m2:¬c.toNat=43:=by omega
     simp[go_sem,g0,g2,g4,g5,seq8_eq,n1,n2,m1,m2,h45,h43]
theorem unsign_facts (s:List UInt8):(unsign s).1.length≤s.length∧((unsign s).2=1∨(unsign s).2= -1):=by
 rw[unsign_cases]
 cases s with
 | nil=>simp
 | cons c r=>
   simp only
   split
   ·simp
   ·split <;> simp
def NumQ (st:St) (m:Nat) (t:Tk) (x:Ex) (e':Env) (s':St):Prop:=
 x= .ret∧Ext st s'∧hget s'.h m=some (.cells 134 true [.int .i64 t.1,.int .i64 t.2.1,.str []])∧eget e' 2= .ptr m 0∧eget e' 3= .int .i64 t.2.2
theorem numR_dec (H:B.H_chaseref03_Number T) {s:List UInt8} {m:Nat} (hs:s.length<1000000000000) {st0:St} (hn:st0.nx≤m) (hx:Ext st0 st) (hg:hget st.h m=some (.cells 134 true [.int .i64 0,.int .i64 0,.str []])) {e:Env} (g0:eget e 0= .str s) (g2:eget e 2= .ptr m 0):
  Res (run T (nb 7) e st) (NumQ st0 m (match readR s with | none=>(0,0,5) | some _=>if(parseR s).2≠0 then(0,0,26)else(2,(parseR s).1,0))):=by
 simp only[nb,B.chaseref03_Number,ab_seq]
 simp[go_sem,g0,g2]
 refine(read_tells H.chaseref01_Read hx.wf hs).mono ?_
 rintro v1 s1 ⟨x1',hU⟩
 have x1:=hx.trans x1'
 have g1:=x1'.get hx.wf hg
 cases hr:readR s with
 | none=>
   rw[hr]at hU
   subst hU
   have f2:=Frm.set x1.wf g1 (o:= .cells 134 true [.int .i64 0,.int .i64 0,.str []])
   simp[go_sem,WO.run,tok_wr g1,NumQ]
   exact⟨x1.frm f2 (by simpa using hn),hget_hset_self g1⟩
 | some p=>
   obtain⟨neg,l,ex⟩:=p
   rw[hr]at hU
   obtain⟨sv,rfl,hsl⟩:=hU
   simp[go_sem]
   refine(parseR_tells H.chaseref01_Parse x1.wf hs).use fun s2 x2'=> ?_
   have x2:=x1.trans x2'
   have g3:=x2'.get x1.wf g1
   generalize parseR s=P
   have f3:=fun a b=>Frm.set x2.wf g3 (o:= .cells 134 true [.int .i64 a,.int .i64 b,.str []])
   by_cases h0:P.2=0
   ·simp[go_sem,h0,WO.run,tok_wr g3,NumQ]
    exact⟨x2.frm (f3 _ _) (by simpa using hn),hget_hset_self g3⟩
   ·simp[go_sem,h0,WO.run,tok_wr g3,NumQ]
    exact⟨x2.frm (f3 _ _) (by simpa using hn),hget_hset_self g3⟩
theorem refNumber_tells (H:B.H_chaseref03_Number T) (hwf:st.Wf) {s:List UInt8} (hs:s.length<1000000000000):Tells T st (.fn 64 [] []) [.str s] (toA (numR s)):=by
 refine tells_of H.e H.f rfl ?_
 have hx:=Ext.new hwf (.cells 134 true [.int .i64 0,.int .i64 0,.str []])
 have hg:hget ((st.nx,AObj.cells 134 true [.int .i64 0,.int .i64 0,.str []])::st.h) st.nx=some (.cells 134 true [.int .i64 0,.int .i64 0,.str []]):=by simp[hget_cons]
 have main:Res (run T (nb 0) (argEnv 0 ([]++[.str s]++[])) st) (NumQ st st.nx (numR s)):=by
  refine cut (c:=nb 0) rfl (by intro l;simp[nb,B.chaseref03_Number,ab_seq]) (fun x e' s'=>x= .norm∧s'=⟨(st.nx,AObj.cells 134 true [.int .i64 0,.int .i64 0,.str []])::st.h,st.nx+1⟩∧eget e' 0= .str s∧eget e' 2= .ptr st.nx 0) ?_ ?_
  ·simp only[nb,B.chaseref03_Number,ab_seq]
   simp[go_sem,NO.run]
  rintro _ e1 s1 ⟨rfl,hst,g0,g2⟩
  rw[kSeq_norm,hst]
  clear hst
  generalize hS:(⟨(st.nx,AObj.cells 134 true [.int .i64 0,.int .i64 0,.str []])::st.h,st.nx+1⟩:St)=sA at hx⊢
  rw[show (st.nx,AObj.cells 134 true [.int .i64 0,.int .i64 0,.str []])::st.h=sA.h by rw[←hS]]at hg
  clear hS
  refine cut (c:=nb 1) rfl (by intro l;simp[nb,B.chaseref03_Number,ab_seq]) (fun x e' s'=>x= .norm∧s'=sA∧eget e' 0= .str s∧eget e' 2= .ptr st.nx 0∧eget e' 4= .str s∧eget e' 5= .int .i64 1) ?_ ?_
  ·simp only[nb,B.chaseref03_Number,ab_seq]
   simp[go_sem,g0,g2]
  rintro _ e2 s2 ⟨rfl,hst,k0,k2,k4,k5⟩
  rw[kSeq_norm,hst]
  clear hst
  refine cut (c:=nb 2) rfl (by intro l;simp[nb,B.chaseref03_Number,ab_seq]) _ (number_sign hs k0 k2 k4 k5) ?_
  rintro _ e3 s3 ⟨rfl,hst,j0,j2,j4,j5⟩
  rw[kSeq_norm,hst]
  clear hst
  show Res (run T (.seq (.keep [0,2,4,5]) (nb 4)) e3 sA) _
  rw[run_keep]
  have h4:eget (keepE [0,2,4,5] e3) 0= .str s∧eget (keepE [0,2,4,5] e3) 2= .ptr st.nx 0∧eget (keepE [0,2,4,5] e3) 4= .str (unsign s).1∧eget (keepE [0,2,4,5] e3) 5= .int .i64 (unsign s).2:=by simp[keepE,eget,j0,j2,j4,j5]
  generalize keepE [0,2,4,5] e3=e4 at h4
  obtain⟨i0,i2,i4,i5⟩:=h4
  obtain⟨u1,u2⟩:=unsign_facts s
  have hcl:=cntR_le 10 (unsign s).1
  have hcnt:=fun(st':St) (hw:st'.Wf)=>refcount_tells (st:=st') H.chaseref03_count hw (s:=(unsign s).1) (by omega) (base:=10) (by omega) (by omega)
  have hnr:numR s=if 0≤cntR 10 (unsign s).1 then ansT ((unsign s).2*cntR 10 (unsign s).1) s.length else match tryR s 1 with
   | some n=>ansT n s.length
   | none=>match tryR s 2 with
     | some n=>ansT n s.length
     | none=>match readR s with
       | none=>(0,0,5)
       | some _=>if(parseR s).2≠0 then(0,0,26)else(2,(parseR s).1,0):=rfl
  rw[hnr]
  generalize cntR 10 (unsign s).1=N at hcl hcnt⊢
  generalize (unsign s).2=sg at i5 u2⊢
  refine cut (c:=nb 4) rfl (by intro l;simp[nb,B.chaseref03_Number,ab_seq]) (fun x e' s'=>(0≤N∧NumQ st st.nx (ansT (sg*N) s.length) x e' s')∨(¬0≤N∧x= .norm∧Ext st s'∧hget s'.h st.nx=some (.cells 134 true [.int .i64 0,.int .i64 0,.str []])∧eget e' 0= .str s∧eget e' 2= .ptr st.nx 0)) ?_ ?_
  ·have w1:IntKind.i64.wrap (sg*N)=sg*N:=by rcases u2 with rfl | rfl <;> exact wrap64' (by omega) (by omega)
   simp only[nb,B.chaseref03_Number,ab_seq]
   simp[go_sem,i0,i2,i4,i5]
   refine(hcnt _ hx.wf).use fun s5 x5'=> ?_
   have x5:=hx.trans x5'
   have g5:=x5'.get hx.wf hg
   by_cases hN:0≤N
   ·simp[go_sem,hN,w1,i0,i2,i5]
    refine(refWhole_tells H.chaseref03_whole x5.wf (k:=s.length) (n:=sg*N)).use fun s6 x6'=> ?_
    have x6:=x5.trans x6'
    have g6:=x6'.get x5.wf g5
    rw[ansS_eq]
    generalize ansT (sg*N) s.length=t
    have f7:=Frm.set x6.wf g6 (o:= .cells 134 true [.int .i64 t.1,.int .i64 t.2.1,.str []])
    simp[go_sem,toA,tokA,tokC,WO.run,tok_wr g6,NumQ,i2]
    exact⟨x6.frm f7 (by simp),hget_hset_self g6⟩
   ·simp[go_sem,hN,x5,g5,i0,i2]
    omega
  rintro x e5 s5 (⟨hN,hq⟩ | ⟨hN,rfl,x5,g5,q0,q2⟩)
  ·rw[if_pos hN]
   have:x= .ret:=hq.1
   subst this
   exact hq
  rw[if_neg hN,kSeq_norm]
  show Res (run T (.seq (.keep [0,2]) (nb 6)) e5 s5) _
  rw[run_keep]
  have h6:eget (keepE [0,2] e5) 0= .str s∧eget (keepE [0,2] e5) 2= .ptr st.nx 0:=by simp[keepE,eget,q0,q2]
  generalize keepE [0,2] e5=e6 at h6
  obtain⟨p0,p2⟩:=h6
  have tn:∀i,s.length≤i→tryR s i=none:=fun i h=>by simp[tryR,List.getElem?_eq_none h]
  refine cut (c:=nb 6) rfl (by intro l;simp[nb,B.chaseref03_Number,ab_seq]) (fun x e' s'=>(∃n,(match tryR s 1 with | some n=>some n | none=>tryR s 2)=some n∧NumQ st st.nx (ansT n s.length) x e' s')∨(tryR s 1=none∧tryR s 2=none∧x= .norm∧Ext st s'∧hget s'.h st.nx=some (.cells 134 true [.int .i64 0,.int .i64 0,.str []])∧eget e' 0= .str s∧eget e' 2= .ptr st.nx 0)) ?_ ?_
  ·have stop:∀(i:Nat) (e':Env) (s':St),(s.length≤i∨i=3)→eget e' 0= .str s→eget e' 2= .ptr st.nx 0→eget e' 7= .int .i64 i→Ext st s'→hget s'.h st.nx=some (.cells 134 true [.int .i64 0,.int .i64 0,.str []])→i≤3→tryR s 1=none→tryR s 2=none→
     Res (run T (.loop B.chaseref03_Number_l0) e' s') fun x e' s'=>(x= .ret∧∃n,(match tryR s 1 with | some n=>some n | none=>tryR s 2)=some n∧NumQ st st.nx (ansT n s.length) .ret e' s')∨(x= .exit 0∧tryR s 1=none∧tryR s 2=none∧Ext st s'∧hget s'.h st.nx=some (.cells 134 true [.int .i64 0,.int .i64 0,.str []])∧eget e' 0= .str s∧eget e' 2= .ptr st.nx 0):=by
    intro i e' s' h a0 a2 a7 y1 y2 y3 t1 t2
    rw[run_loop]
    rcases h with h | rfl
    ·have hil:¬(i:Int)<s.length:=by omega
     have hil':¬i<s.length:=by omega
     by_cases hi2:i≤2
     ·simp[B.chaseref03_Number_l0,go_sem,a0,a2,a7,hil,hil',hi2,show (i:Int)≤2 by omega,y1,y2,t1,t2]
     ·simp[B.chaseref03_Number_l0,go_sem,a0,a2,a7,hi2,show¬(i:Int)≤2 by omega,y1,y2,t1,t2]
    ·simp[B.chaseref03_Number_l0,go_sem,a0,a2,a7,y1,y2,t1,t2]
   have two:∀(e':Env) (s':St),eget e' 0= .str s→eget e' 2= .ptr st.nx 0→eget e' 7= .int .i64 ((2:Nat):Int)→Ext st s'→hget s'.h st.nx=some (.cells 134 true [.int .i64 0,.int .i64 0,.str []])→tryR s 1=none→
     Res (run T (.loop B.chaseref03_Number_l0) e' s') fun x e' s'=>(x= .ret∧∃n,(match tryR s 1 with | some n=>some n | none=>tryR s 2)=some n∧NumQ st st.nx (ansT n s.length) .ret e' s')∨(x= .exit 0∧tryR s 1=none∧tryR s 2=none∧Ext st s'∧hget s'.h st.nx=some (.cells 134 true [.int .i64 0,.int .i64 0,.str []])∧eget e' 0= .str s∧eget e' 2= .ptr st.nx 0):=by
    intro e' s' a0 a2 a7 y1 y2 t1
    by_cases h2:2<s.length
    ·refine numR_step H hs (Nat.le_refl _) (.inr rfl) h2 y1 y2 a0 a2 a7 ?_ ?_
     ·intro n e2 s2 ht z1 z2 z3 z4
      exact .inl ⟨rfl,n,by rw[t1];exact ht,rfl,z1,z2,z3,z4⟩
     ·intro e2 s2 ht z1 z2 z3 z4 z5
      exact stop 3 e2 s2 (.inr rfl) z3 z4 z5 z1 z2 (by omega) t1 ht
    ·exact stop 2 e' s' (.inl (by omega)) a0 a2 a7 y1 y2 (by omega) t1 (tn 2 (by omega))
   have one:∀(e':Env),eget e' 0= .str s→eget e' 2= .ptr st.nx 0→eget e' 7= .int .i64 ((1:Nat):Int)→
     Res (run T (.loop B.chaseref03_Number_l0) e' s5) fun x e' s'=>(x= .ret∧∃n,(match tryR s 1 with | some n=>some n | none=>tryR s 2)=some n∧NumQ st st.nx (ansT n s.length) .ret e' s')∨(x= .exit 0∧tryR s 1=none∧tryR s 2=none∧Ext st s'∧hget s'.h st.nx=some (.cells 134 true [.int .i64 0,.int .i64 0,.str []])∧eget e' 0= .str s∧eget e' 2= .ptr st.nx 0):=by
    intro e' a0 a2 a7
    by_cases h1:1<s.length
    ·refine numR_step H hs (Nat.le_refl _) (.inl rfl) h1 x5 g5 a0 a2 a7 ?_ ?_
     ·intro n e2 s2 ht z1 z2 z3 z4
      exact .inl ⟨rfl,n,by rw[ht],rfl,z1,z2,z3,z4⟩
     ·intro e2 s2 ht z1 z2 z3 z4 z5
      exact two e2 s2 z3 z4 z5 z1 z2 ht
    ·exact stop 1 e' s5 (.inl (by omega)) a0 a2 a7 x5 g5 (by omega) (tn 1 (by omega)) (tn 2 (by omega))
   show Res (run T (.seq (.reg [B.p 7 (.mov (.k (.int .i64 1)))]) (.block 0 (.loop B.chaseref03_Number_l0))) e6 s5) _
   have e7:(1:Int)=((1:Nat):Int):=rfl
   refine seq_cut (fun x e' s'=>x= .norm∧s'=s5∧eget e' 0= .str s∧eget e' 2= .ptr st.nx 0∧eget e' 7= .int .i64 ((1:Nat):Int)) (by intro l;simp) (by simp[go_sem,p0,p2]) ?_
   rintro _ e8 s8 ⟨rfl,hst,a0,a2,a7⟩
   rw[kSeq_norm,hst,run_block,Res_blockE]
   refine(one e8 a0 a2 a7).mono ?_
   rintro x e9 s9 (⟨rfl,n,hn,hq⟩ | ⟨rfl,t1,t2,z1,z2,z3,z4⟩)
   ·exact .inl ⟨n,hn,hq⟩
   ·simp only[kBlk_exit,if_true]
    exact .inr ⟨t1,t2,trivial,z1,z2,z3,z4⟩
  rintro x e7 s7 (⟨n,hn,hq⟩ | ⟨t1,t2,rfl,z1,z2,z3,z4⟩)
  ·have:x= .ret:=hq.1
   subst this
   have hT:(match tryR s 1 with
    | some n=>ansT n s.length
    | none=>match tryR s 2 with
      | some n=>ansT n s.length
      | none=>match readR s with
        | none=>(0,0,5)
        | some _=>if(parseR s).2≠0 then(0,0,26)else(2,(parseR s).1,0))=ansT n s.length:=by
    cases h1:tryR s 1 with
    | some a=>rw[h1]at hn;simp at hn;rw[hn]
    | none=>
      rw[h1]at hn
      simp at hn
      simp[hn]
   rw[hT]
   exact hq
  ·rw[t1,t2,kSeq_norm]
   exact numR_dec H hs (Nat.le_refl _) z1 z2 z3 z4
 refine main.mono ?_
 rintro x e s' ⟨rfl,x1,g1,g2,g3⟩
 refine⟨.inr rfl,?_,x1⟩
 simp[B.chaseref03_Number,fresults,resVals,resVal,RO.run,go_sem,g2,g3,tok_rd g1,toA,tokA,tokC]
end Go.Ev

/- The reference's Word told. -/
namespace Go.Ev
open Go
set_option linter.unusedSimpArgs false
set_option linter.unusedSectionVars false
set_option linter.unusedVariables false
variable {T : Tab} {st : St}
def wordR (s:List UInt8):Int×Int×List UInt8×Int:=
 if s=[]∨regAll s=false then(0,0,[],5)
 else if(numR s).2.2≠5 then((numR s).1,(numR s).2.1,[],(numR s).2.2)
 else if 100<s.length then(0,0,[],26)else(3,0,s,0)
theorem refWord_tells (H:B.H_chaseref03_Word T) (hwf:st.Wf) {s:List UInt8} (hs:s.length<1000000000000):Tells T st (.fn 66 [] []) [.str s] (toW (wordR s)):=by
 refine tells_of H.e H.f rfl ?_
 have hx:=Ext.new hwf (.cells 134 true [.int .i64 0,.int .i64 0,.str []])
 have hg:hget ((st.nx,AObj.cells 134 true [.int .i64 0,.int .i64 0,.str []])::st.h) st.nx=some (.cells 134 true [.int .i64 0,.int .i64 0,.str []]):=by simp[hget_cons]
 have bad:∀{s1:St},Ext st s1→hget s1.h st.nx=some (.cells 134 true [.int .i64 0,.int .i64 0,.str []])→∀k n t,Ext st ⟨hset s1.h st.nx (.cells 134 true [.int .i64 k,.int .i64 n,.str t]),s1.nx⟩:=fun e1 g1 k n t=>e1.setNew g1 (Nat.le_refl _)
 by_cases hz:s=[]
 ·subst hz
  simp[B.chaseref03_Word,go_sem,NO.run,seq8,tok_wr hg,WO.run,fresults,resVals,resVal,RO.run,tok_rd (hget_hset_self hg),toW,wordR,tokA,tokC]
  exact hx.setNew (st:=st) hg (Nat.le_refl _)
 ·have hq:seq8 s []=false:=by cases s with | nil=>exact absurd rfl hz | cons=>rfl
  simp[B.chaseref03_Word,go_sem,NO.run,hq]
  refine(refAll_tells H.chaseref03_All hx.wf (s:=s) (by omega)).use fun s1 hs1=> ?_
  have e1:=hx.trans hs1
  have g1:=hs1.get hx.wf hg
  cases hr:regAll s with
  | false=>
    simp[go_sem,hr,tok_wr g1,WO.run,fresults,resVals,resVal,RO.run,tok_rd (hget_hset_self g1),toW,wordR,tokA,tokC]
    exact bad e1 g1 _ _ _
  | true=>
    simp[go_sem,hr]
    refine(refNumber_tells H.chaseref03_Number e1.wf hs).use fun s2 hs2=> ?_
    have e2:=e1.trans hs2
    have g2:=hs2.get e1.wf g1
    obtain⟨t,ht⟩:∃t,t=numR s:=⟨_,rfl⟩
    have hwd:wordR s=if t.2.2≠5 then(t.1,t.2.1,[],t.2.2)else if 100<s.length then(0,0,[],26)else(3,0,s,0):=by simp[wordR,hz,hr,ht]
    rw[←ht,hwd]
    clear ht hwd
    have x3:=Ext.new e2.wf (.cells 134 true [.int .i64 0,.int .i64 0,.str []])
    have hnx:st.nx<s2.nx:=by have:=e2.wf.lt _ _ g2;exact this
    simp[go_sem,NO.run,WO.run,toA,tokA,tokC,wr_tok]
    have hgn:hget ((s2.nx,AObj.cells 134 true [.int .i64 t.1,.int .i64 t.2.1,.str []])::s2.h) st.nx=some (.cells 134 true [.int .i64 0,.int .i64 0,.str []]):=by
     rw[hget_cons,if_neg (by omega)];exact g2
    have xn:=e2.trans (Ext.new e2.wf (.cells 134 true [.int .i64 t.1,.int .i64 t.2.1,.str []]))
    by_cases h5:t.2.2=5
    ·by_cases hl:100<s.length
     ·have hl':(100:Int)<s.length:=by omega
      simp[go_sem,h5,hl,hl',tok_wr hgn,WO.run,fresults,resVals,resVal,RO.run,tok_rd (hget_hset_self hgn),toW,tokA,tokC]
      exact bad xn hgn _ _ _
     ·have hl':¬(100:Int)<s.length:=by omega
      simp[go_sem,h5,hl,hl',tok_wr hgn,WO.run,fresults,resVals,resVal,RO.run,tok_rd (hget_hset_self hgn),toW,tokA,tokC]
      exact bad xn hgn _ _ _
    ·simp[go_sem,h5,rd_tok,tok_wr hgn,WO.run,fresults,resVals,resVal,RO.run,tok_rd (hget_hset_self hgn),toW,tokA,tokC]
     exact bad xn hgn _ _ _
end Go.Ev

/- The plain law of numbers: ints, with and without a base. -/
namespace Go.Ev
open Go
set_option linter.unusedSimpArgs false
set_option linter.unusedSectionVars false
set_option linter.unusedVariables false
theorem cnt_caps {C1 C2:Nat} (hC:C1≤C2) {base:Int} (hb:1≤base.toNat):∀(s:List UInt8) (n:Nat),cntFrom C1 base (min n C1) s=(cntFrom C2 base n s).map fun v=>min v C1
 | [],n=>by simp[cntFrom]
 | c::s,n=>by
   simp only[cntFrom]
   split
   ·rfl
   ·have h:min (min n C1*base.toNat+digV c) C1=min (min (n*base.toNat+digV c) C2) C1:=by
     generalize base.toNat=b at hb
     generalize digV c=d
     rw[Nat.min_assoc,Nat.min_eq_right hC]
     by_cases hn:n≤C1
     ·rw[Nat.min_eq_left hn]
     ·have h1:C1≤C1*b:=Nat.le_mul_of_pos_right _ hb
      have h2:C1*b≤n*b:=Nat.mul_le_mul_right _ (by omega)
      rw[Nat.min_eq_right (by omega:C1≤n),Nat.min_eq_right (by omega),Nat.min_eq_right (by omega)]
    rw[h]
    exact cnt_caps hC hb s _
theorem cntR_S {base:Int} (hb:1≤base) (s:List UInt8):((cntS base s).2=true↔0≤cntR base s)∧((cntS base s).2=true→cntR base s=((min (cntS base s).1 8589934592:Nat):Int)):=by
 have h:=cnt_caps (C1:=8589934592) (C2:=1099511627776) (by omega) (base:=base) (by omega) s 0
 rw[Nat.zero_min]at h
 unfold cntS cntR
 rw[h]
 cases hc:cntFrom 1099511627776 base 0 s with
 | none=>by_cases hs:s=[] <;> simp[hs]
 | some n=>by_cases hs:s=[] <;> simp[hs]
theorem ansT_min {sg:Int} (hsg:sg=1∨sg= -1) (n len:Nat):ansT (sg*((min n 8589934592:Nat):Int)) len=ansT (sg*n) len:=by
 by_cases h:n≤8589934592
 ·rw[Nat.min_eq_left h]
 ·have h1:min n 8589934592=8589934592:=by omega
  rw[h1]
  unfold ansT
  rcases hsg with rfl | rfl
  ·rw[if_pos (by omega),if_pos (by omega)]
  ·rw[if_pos (by omega),if_pos (by omega)]
theorem ansT_not5 (n:Int) (len:Nat):(ansT n len).2.2≠5:=by
 unfold ansT;split <;> simp
theorem whole_law (s:List UInt8):wholeT s=if 0≤cntR 10 (unsign s).1 then ansT ((unsign s).2*cntR 10 (unsign s).1) s.length else(0,0,5):=by
 obtain⟨h1,h2⟩:=cntR_S (base:=10) (by omega) (unsign s).1
 unfold wholeT
 by_cases h:(cntS 10 (unsign s).1).2=true
 ·rw[if_pos h,if_pos (h1.1 h),h2 h,ansT_min (unsign_facts s).2]
 ·rw[if_neg h,if_neg (fun h'=>h (h1.2 h'))]
theorem cntFrom_35 (C:Nat) {base:Int} (hb:base≤36):∀(s:List UInt8) (n:Nat),35∈s→cntFrom C base n s=none
 | c::s,n,h=>by
   simp only[cntFrom]
   split
   ·rfl
   ·rename_i hc
    rcases List.mem_cons.1 h with rfl | h
    ·exact absurd (show (digV 35:Int)≥base by have:digV 35=99:=rfl;omega) hc
    ·exact cntFrom_35 C hb s _ h
theorem cntR_35 {base:Int} (hb:base≤36) {s:List UInt8} (h:35∈s):cntR base s= -1:=by
 unfold cntR
 rw[cntFrom_35 _ hb s 0 h]
 split <;> rfl
theorem tryR_none {s:List UInt8} {k i:Nat} (hk:s[k]? =some 35) (hki:k<i):tryR s i=none:=by
 have:35∈s.take i:=List.mem_of_getElem? (i:=k) (by rw[List.getElem?_take,if_pos hki];exact hk)
 unfold tryR
 rw[cntR_35 (by omega) this]
 simp
theorem tryR_cut {s:List UInt8} {k:Nat} (hk:s[k]? =some 35) (hk0:1≤k) (hk2:k≤2) (hks:k<s.length):
  (if(cntS 10 (s.take k)).2=false∨2<(s.take k).length∨(cntS 10 (s.take k)).1<2∨36<(cntS 10 (s.take k)).1 then((0,0,5):Tk)
    else if(cntS (cntS 10 (s.take k)).1 (s.drop (k+1))).2=true then ansT (cntS (cntS 10 (s.take k)).1 (s.drop (k+1))).1 s.length else(0,0,5))=match tryR s k with | some n=>ansT n s.length | none=>(0,0,5):=by
 obtain⟨h1,h2⟩:=cntR_S (base:=10) (by omega) (s.take k)
 have hl:¬2<(s.take k).length:=by rw[List.length_take];omega
 unfold tryR
 by_cases ho:(cntS 10 (s.take k)).2=true
 ·have hb:=h2 ho
  generalize (cntS 10 (s.take k)).1=b at hb⊢
  by_cases hb2:b<2∨36<b
  ·have:¬(s[k]? =some 35∧2≤cntR 10 (s.take k)∧cntR 10 (s.take k)≤36∧0≤cntR (cntR 10 (s.take k)) (s.drop (k+1))):=by rw[hb];omega
   rw[if_neg this,if_pos (by omega)]
  ·have hbb:cntR 10 (s.take k)=(b:Int):=by rw[hb];omega
   rw[hbb,if_neg (by simp[ho];rw[List.length_take]at hl;omega)]
   obtain⟨h3,h4⟩:=cntR_S (base:=(b:Int)) (by omega) (s.drop (k+1))
   by_cases hr:(cntS (b:Int) (s.drop (k+1))).2=true
   ·rw[if_pos hr,if_pos ⟨hk,by omega,by omega,h3.1 hr⟩]
    simp only
    rw[h4 hr]
    have:=ansT_min (sg:=1) (.inl rfl) (cntS (b:Int) (s.drop (k+1))).1 s.length
    simpa using this.symm
   ·rw[if_neg hr,if_neg (fun h=>hr (h3.2 h.2.2.2))]
 ·have hneg:¬0≤cntR 10 (s.take k):=fun h=>ho (h1.2 h)
  rw[if_pos (.inl (by simpa using ho)),if_neg (by omega)]
theorem indexByte_ge:∀(s:List UInt8) (d:UInt8), -1≤Lib.indexByte s d
 | [],_=>by simp[Lib.indexByte]
 | c::r,d=>by
   have:=indexByte_ge r d
   simp only[Lib.indexByte]
   (repeat' split) <;> omega
theorem radix_law (s:List UInt8):radixT s=match tryR s 1 with | some n=>ansT n s.length | none=>match tryR s 2 with | some n=>ansT n s.length | none=>(0,0,5):=by
 have hlt:=indexByte_lt' s 35
 have tn:∀i,s[i]?≠some 35→tryR s i=none:=fun i h=>by simp[tryR,h]
 by_cases h0:0≤Lib.indexByte s 35
 ·obtain⟨k,hk⟩:=Int.eq_ofNat_of_zero_le h0
  obtain⟨hs,hmin⟩:=Lib.indexByte_some hk
  have hks:k<s.length:=by omega
  have hcut:cutS 35 s=(s.take k,s.drop (k+1),true):=by unfold cutS;rw[if_pos h0,hk];rfl
  have hrt:radixT s=(if(cntS 10 (s.take k)).2=false∨2<(s.take k).length∨(cntS 10 (s.take k)).1<2∨36<(cntS 10 (s.take k)).1 then((0,0,5):Tk)
    else if(cntS (cntS 10 (s.take k)).1 (s.drop (k+1))).2=true then ansT (cntS (cntS 10 (s.take k)).1 (s.drop (k+1))).1 s.length else(0,0,5)):=by
   unfold radixT
   rw[hcut]
   simp
  rw[hrt]
  by_cases hk0:k=0
  ·subst hk0
   rw[tryR_none hs (by omega),tryR_none hs (by omega),if_pos (.inl (by simp[cntS,cntFrom]))]
  by_cases hk1:k=1
  ·subst hk1
   rw[tryR_cut hs (by omega) (by omega) hks,tryR_none hs (i:=2) (by omega)]
  by_cases hk2:k=2
  ·subst hk2
   rw[tryR_cut hs (by omega) (by omega) hks,tn 1 (hmin 1 (by omega))]
  ·rw[tn 1 (hmin 1 (by omega)),tn 2 (hmin 2 (by omega)),if_pos (.inr (.inl (by rw[List.length_take];omega)))]
 ·have hcut:cutS 35 s=(s,[],false):=by unfold cutS;rw[if_neg h0]
  have hge:=indexByte_ge s 35
  have hm1:Lib.indexByte s 35= -1:=by omega
  have hno:=Lib.indexByte_none hm1
  rw[tn 1 (hno 1),tn 2 (hno 2)]
  unfold radixT
  rw[hcut,if_pos (.inl rfl)]
end Go.Ev

/- The plain law of numbers: decimals are read alike. -/
namespace Go.Ev
open Go
set_option linter.unusedSimpArgs false
set_option linter.unusedSectionVars false
set_option linter.unusedVariables false
theorem isDig_iff (c:UInt8):isDig c=true↔48≤c.toNat∧c.toNat≤57:=by simp[isDig]
theorem mant_true:∀u:List UInt8,mant true u=((spanD u).1,(spanD u).1.length,(spanD u).2)
 | []=>rfl
 | c::r=>by
   simp only[mant,spanD]
   by_cases h:48≤c.toNat∧c.toNat≤57
   ·rw[if_pos ((isDig_iff c).2 h),if_pos h,mant_true r]
    simp[Nat.add_comm]
   ·rw[if_neg (fun h'=>h ((isDig_iff c).1 h')),if_neg h,if_neg (by simp)]
    rfl
theorem mant_false:∀u:List UInt8,mant false u=if oneB [46] (spanD u).2=true then((spanD u).1++(spanD (spanD u).2.tail).1,(spanD (spanD u).2.tail).1.length,(spanD (spanD u).2.tail).2)else((spanD u).1,0,(spanD u).2)
 | []=>rfl
 | c::r=>by
   by_cases h:48≤c.toNat∧c.toNat≤57
   ·have hsp:spanD (c::r)=((c.toNat - 48)::(spanD r).1,(spanD r).2):=by simp[spanD,h]
    rw[hsp,mant,if_pos ((isDig_iff c).2 h),mant_false r]
    simp only
    split <;> simp
   ·have hsp:spanD (c::r)=([],c::r):=by simp[spanD,h]
    rw[hsp,mant,if_neg (fun h'=>h ((isDig_iff c).1 h'))]
    by_cases h46:c=46
    ·subst h46
     rw[if_pos ⟨rfl,rfl⟩,mant_true]
     simp[oneB]
    ·rw[if_neg (by simp[h46])]
     simp[oneB,h46]
theorem exp_law (neg:Bool) (L:List Nat) (R:List UInt8) (k n1:Nat) (h:n1+k=L.length):
  (if L=[]then none else match R with
    | []=>some (neg,L, -(k:Int))
    | c::t=>
      if c≠101∧c≠69 then none
      else if(sgn t).2.length<1∨3<(sgn t).2.length then none
      else if(spanD (sgn t).2).2=[]then some (neg,L, -(k:Int)+(if(sgn t).1=true then -(numD (spanD (sgn t).2).1:Int)else(numD (spanD (sgn t).2).1:Int)))
      else none)=
  Option.map (fun p:Bool×List Nat×Int=>(p.1,p.2.1,p.2.2 - (p.2.1.length:Int))) (if L=[]then none
   else if oneB [101,69] R=true then
    if(spanD (sgn R.tail).2).1.length<1∨3<(spanD (sgn R.tail).2).1.length then none
    else if(spanD (sgn R.tail).2).2=[]then some (neg,L,(n1:Int)+(if(sgn R.tail).1=true then -(numD (spanD (sgn R.tail).2).1:Int)else(numD (spanD (sgn R.tail).2).1:Int)))
    else none
   else if R=[]then some (neg,L,(n1:Int))else none):=by
 by_cases hL:L=[]
 ·simp[hL]
 rw[if_neg hL,if_neg hL]
 cases R with
 | nil=>simp[oneB];omega
 | cons c t=>
   by_cases hc:c≠101∧c≠69
   ·simp[oneB,hc]
   ·have ho:oneB [101,69] (c::t)=true:=by
     simp only[oneB,decide_eq_true_eq]
     by_cases h1:c=101
     ·simp[h1]
     ·by_cases h2:c=69
      ·simp[h2]
      ·exact absurd ⟨h1,h2⟩ hc
    have hl:=spanD_len (sgn t).2
    by_cases hz:(spanD (sgn t).2).2=[]
    ·rw[hz]at hl
     simp only[List.length_nil,Nat.add_zero]at hl
     cases hsg:(sgn t).1 <;> simp[hc,ho,hz,hl,hsg] <;> split <;> simp <;> omega
    ·by_cases hlen:(sgn t).2.length<1∨3<(sgn t).2.length <;> simp[hc,ho,hz,hlen]
theorem readR_D (s:List UInt8):readR s=(decD s).map fun p=>(p.1,p.2.1,p.2.2 - (p.2.1.length:Int)):=by
 unfold readR decD decL decR
 simp only[mant_false]
 generalize (sgn s).1=neg
 generalize (sgn s).2=u
 by_cases hp:oneB [46] (spanD u).2=true
 ·simp only[if_pos hp]
  exact exp_law neg _ _ _ _ (by simp)
 ·simp only[if_neg hp]
  exact exp_law neg _ _ 0 _ (by simp)
end Go.Ev

/- The plain law of numbers: a decimal without a point or an exponent is an int. -/
namespace Go.Ev
open Go
set_option linter.unusedSimpArgs false
set_option linter.unusedSectionVars false
set_option linter.unusedVariables false
theorem unsign_sgn (s:List UInt8):(unsign s).1=(sgn s).2:=by
 rw[unsign_cases]
 cases s with
 | nil=>rfl
 | cons c r=>
   simp only[sgn]
   by_cases h:c=45
   ·simp[h]
   ·by_cases h':c=43
    ·simp[h']
    ·simp[h,h']
theorem cntFrom_dig (C:Nat):∀(u:List UInt8) (n:Nat),(spanD u).2=[]→∃v,cntFrom C 10 n u=some v
 | [],n,_=>⟨n,rfl⟩
 | c::r,n,h=>by
   by_cases hc:48≤c.toNat∧c.toNat≤57
   ·have hsp:(spanD (c::r)).2=(spanD r).2:=by simp[spanD,hc]
    rw[hsp]at h
    have hd:digV c=c.toNat - 48:=by simp[digV,hc]
    simp only[cntFrom]
    rw[if_neg (by omega)]
    exact cntFrom_dig C r _ h
   ·have hsp:(spanD (c::r)).2=c::r:=by simp[spanD,hc]
    rw[hsp]at h
    cases h
theorem cntR_dig {u:List UInt8} (h:(spanD u).2=[]) (hu:u≠[]):0≤cntR 10 u:=by
 obtain⟨v,hv⟩:=cntFrom_dig 8589934592 u 0 h
 unfold cntR
 rw[if_neg hu,hv]
 exact Int.natCast_nonneg v
theorem plain_int {s:List UInt8} (h:anyOf [46,101,69] s=false) (hd:decD s≠none):0≤cntR 10 (unsign s).1:=by
 rw[unsign_sgn]
 have hall:∀c∈s,c≠46∧c≠101∧c≠69:=by
  intro c hc
  simp[anyOf]at h
  have:=h c hc
  simpa using this
 have hu:∀c∈(sgn s).2,c∈s:=fun c hc=>by
  rw[(sgn_drop s).1]at hc
  exact List.mem_of_mem_drop hc
 have hz:∀R:List UInt8,(∀c∈R,c∈s)→oneB [46] R=false∧oneB [101,69] R=false:=fun R hR=>by
  cases R with
  | nil=>exact⟨rfl,rfl⟩
  | cons c r=>
    have:=hall c (hR c List.mem_cons_self)
    simp[oneB,this.1,this.2.1,this.2.2]
 have hsuf:∀c∈(spanD (sgn s).2).2,c∈s:=fun c hc=>by
  rw[spanD_rest]at hc
  exact hu c (List.mem_of_mem_drop hc)
 obtain⟨z1,z2⟩:=hz _ hsuf
 have hR:decR s=(spanD (sgn s).2).2:=by unfold decR;rw[if_neg (by simp[z1])]
 have hL:decL s=(spanD (sgn s).2).1:=by unfold decL;rw[if_neg (by simp[z1])]
 unfold decD at hd
 rw[hR,hL]at hd
 by_cases h1:(spanD (sgn s).2).1=[]
 ·rw[if_pos h1]at hd;exact absurd rfl hd
 ·by_cases h2:(spanD (sgn s).2).2=[]
  ·refine cntR_dig h2 fun h3=>h1 ?_
   rw[h3];rfl
  ·rw[if_neg h1,if_neg (by simp[z2]),if_neg h2]at hd
   exact absurd rfl hd
end Go.Ev

/- The plain law of numbers: a text whose runs of digits are cut to one digit is a decimal if the whole text is. -/
namespace Go.Ev
open Go
set_option linter.unusedSimpArgs false
set_option linter.unusedSectionVars false
set_option linter.unusedVariables false
theorem shorten_exp:∀(pd:Bool) (t:List UInt8),shorten pd false t=t
 | _,[]=>rfl
 | pd,c::r=>by
   simp only[shorten,Bool.false_and]
   rw[if_neg (by simp),shorten_exp]
theorem shorten_not {pd:Bool} {c:UInt8} (r:List UInt8) (h:isDig c=false) (hx:isExp c=false):shorten pd true (c::r)=c::shorten false true r:=by
 simp[shorten,h,hx]
theorem shorten_e {pd:Bool} {c:UInt8} (r:List UInt8) (h:isDig c=false) (hx:isExp c=true):shorten pd true (c::r)=c::r:=by
 simp[shorten,h,hx,shorten_exp]
theorem shorten_dig {c:UInt8} (r:List UInt8) (h:isDig c=true) (hx:isExp c=false):shorten false true (c::r)=c::shorten true true r∧shorten true true (c::r)=shorten true true r:=by
 simp[shorten,h,hx]
theorem dig_exp {c:UInt8} (h:isDig c=true):isExp c=false:=by
 have:=(isDig_iff c).1 h
 simp only[isExp,Bool.or_eq_false_iff,decide_eq_false_iff_not]
 exact⟨by rintro rfl;simp at this,by rintro rfl;simp at this⟩
theorem shorten_run:∀r:List UInt8,shorten true true r=shorten false true (spanD r).2
 | []=>rfl
 | c::r=>by
   by_cases h:isDig c=true
   ·rw[(shorten_dig r h (dig_exp h)).2,shorten_run r]
    have hd:=(isDig_iff c).1 h
    simp[spanD,hd]
   ·have hf:isDig c=false:=by simpa using h
    have hd:¬(48≤c.toNat∧c.toNat≤57):=fun h'=>h ((isDig_iff c).2 h')
    have hsp:(spanD (c::r)).2=c::r:=by simp[spanD,hd]
    rw[hsp]
    cases hx:isExp c with
    | true=>rw[shorten_e r hf hx,shorten_e r hf hx]
    | false=>rw[shorten_not r hf hx,shorten_not r hf hx]
theorem shorten_head (R:List UInt8):(shorten false true R=[]↔R=[])∧(∀set,oneB set (shorten false true R)=oneB set R):=by
 cases R with
 | nil=>simp[shorten]
 | cons c r=>
   have:∃r',shorten false true (c::r)=c::r':=by
    simp only[shorten]
    rw[if_neg (by simp)]
    exact⟨_,rfl⟩
   obtain⟨r',h⟩:=this
   rw[h]
   simp[oneB]
theorem spanD_nodig {R:List UInt8} (h:∀c r,R=c::r→isDig c=false):spanD R=([],R):=by
 cases R with
 | nil=>rfl
 | cons c r=>
   have:=h c r rfl
   have hd:¬(48≤c.toNat∧c.toNat≤57):=fun h'=>by rw[(isDig_iff c).2 h']at this;cases this
   simp[spanD,hd]
theorem spanD_rest_nodig:∀u:List UInt8,∀c r,(spanD u).2=c::r→isDig c=false
 | [],c,r,h=>by cases h
 | d::u,c,r,h=>by
   by_cases hd:48≤d.toNat∧d.toNat≤57
   ·have:(spanD (d::u)).2=(spanD u).2:=by simp[spanD,hd]
    rw[this]at h
    exact spanD_rest_nodig u c r h
   ·have:(spanD (d::u)).2=d::u:=by simp[spanD,hd]
    rw[this]at h
    injection h with h1 h2
    subst h1
    cases hq:isDig d with
    | false=>rfl
    | true=>exact absurd ((isDig_iff d).1 hq) hd
theorem shorten_nodig {R:List UInt8} (h:∀c r,R=c::r→isDig c=false):∀c r,shorten false true R=c::r→isDig c=false:=by
 intro c r hs
 cases R with
 | nil=>cases hs
 | cons d u=>
   have hd:=h d u rfl
   simp only[shorten]at hs
   rw[if_neg (by simp)]at hs
   injection hs with h1 h2
   rw[←h1];exact hd
theorem spanD_shorten (u:List UInt8):(spanD (shorten false true u)).2=shorten false true (spanD u).2∧((spanD (shorten false true u)).1=[]↔(spanD u).1=[])∧(spanD (shorten false true u)).1.length≤1:=by
 cases u with
 | nil=>simp[shorten,spanD]
 | cons c r=>
   by_cases h:isDig c=true
   ·have hd:=(isDig_iff c).1 h
    rw[(shorten_dig r h (dig_exp h)).1,shorten_run r]
    have hn:=spanD_nodig (shorten_nodig (spanD_rest_nodig r))
    simp[spanD,hd,hn]
   ·have hf:isDig c=false:=by simpa using h
    have hd:¬(48≤c.toNat∧c.toNat≤57):=fun h'=>h ((isDig_iff c).2 h')
    have hsp:spanD (c::r)=([],c::r):=by simp[spanD,hd]
    have hn:=spanD_nodig (shorten_nodig (R:=c::r) (fun c' r' h'=>by injection h' with h1;rw[←h1];exact hf))
    rw[hsp,hn]
    simp
theorem sgn_shorten (s:List UInt8):sgn (shorten false true s)=((sgn s).1,shorten false true (sgn s).2):=by
 cases s with
 | nil=>rfl
 | cons c r=>
   have hk:∃r',shorten false true (c::r)=c::r':=by
    simp only[shorten]
    rw[if_neg (by simp)]
    exact⟨_,rfl⟩
   by_cases h:c=45
   ·subst h
    rw[shorten_not r (by rfl) (by rfl)]
    simp[sgn]
   ·by_cases h':c=43
    ·subst h'
     rw[shorten_not r (by rfl) (by rfl)]
     simp[sgn]
    ·obtain⟨r',h2⟩:=hk
     have e1:sgn (c::r)=(false,c::r):=by simp[sgn,h,h']
     rw[e1]
     simp only
     rw[h2]
     simp[sgn,h,h']
theorem shorten_tail {R:List UInt8} (h:oneB [46] R=true):(shorten false true R).tail=shorten false true R.tail:=by
 cases R with
 | nil=>simp[oneB]at h
 | cons c r=>
   simp[oneB]at h
   subst h
   rw[shorten_not r (by rfl) (by rfl)]
   rfl
theorem shorten_etail {R:List UInt8} (h:oneB [101,69] R=true):(shorten false true R).tail=R.tail:=by
 cases R with
 | nil=>simp[oneB]at h
 | cons c r=>
   simp[oneB]at h
   rcases h with rfl | rfl
   ·rw[shorten_e r (by rfl) (by rfl)]
   ·rw[shorten_e r (by rfl) (by rfl)]
theorem decR_shorten (s:List UInt8):decR (shorten false true s)=shorten false true (decR s)∧(decL (shorten false true s)=[]↔decL s=[]):=by
 unfold decR decL
 rw[sgn_shorten]
 simp only
 obtain⟨a1,a2,a3⟩:=spanD_shorten (sgn s).2
 have hh:=(shorten_head (spanD (sgn s).2).2).2 [46]
 rw[←a1]at hh
 by_cases hp:oneB [46] (spanD (sgn s).2).2=true
 ·rw[hp]at hh
  obtain⟨b1,b2,b3⟩:=spanD_shorten (spanD (sgn s).2).2.tail
  rw[if_pos hh,if_pos hp,if_pos hh,if_pos hp,a1,shorten_tail hp]
  exact⟨b1,by rw[List.append_eq_nil_iff,List.append_eq_nil_iff,a2,b2]⟩
 ·have hh':¬oneB [46] (spanD (shorten false true (sgn s).2)).2=true:=by rw[hh];exact hp
  rw[if_neg hh',if_neg hp,if_neg hh',if_neg hp]
  exact⟨a1,a2⟩
theorem decD_shorten (s:List UInt8):decD (shorten false true s)=none↔decD s=none:=by
 obtain⟨r1,r2⟩:=decR_shorten s
 have hh:=shorten_head (decR s)
 unfold decD
 rw[r1]
 by_cases hL:decL s=[]
 ·rw[if_pos hL,if_pos (r2.2 hL)]
 ·rw[if_neg hL,if_neg (fun h=>hL (r2.1 h))]
  have ho:=hh.2 [101,69]
  by_cases he:oneB [101,69] (decR s)=true
  ·rw[if_pos he,if_pos (by rw[ho];exact he),shorten_etail he]
   by_cases hlen:(spanD (sgn (decR s).tail).2).1.length<1∨3<(spanD (sgn (decR s).tail).2).1.length
   ·rw[if_pos hlen,if_pos hlen]
   ·rw[if_neg hlen,if_neg hlen]
    by_cases hz:(spanD (sgn (decR s).tail).2).2=[]
    ·rw[if_pos hz,if_pos hz];simp
    ·rw[if_neg hz,if_neg hz]
  ·rw[if_neg he,if_neg (by rw[ho];exact he)]
   by_cases hz:decR s=[]
   ·rw[if_pos hz,if_pos (hh.1.2 hz)];simp
   ·rw[if_neg hz,if_neg (fun h=>hz (hh.1.1 h))]
end Go.Ev

/- The plain law of numbers: values. -/
namespace Go.Ev
open Go
set_option linter.unusedSimpArgs false
set_option linter.unusedSectionVars false
set_option linter.unusedVariables false
theorem numF_eq:∀(l:List Nat) (n:Nat),l.foldl (fun a d=>10*a+d) n=n*10 ^ l.length+numD l
 | [],n=>by simp[numD]
 | d::l,n=>by
   rw[List.foldl_cons,numF_eq l]
   have:numD (d::l)=d*10 ^ l.length+numD l:=by
    show List.foldl _ (10*0+d) l=_
    rw[numF_eq l];simp
   rw[this,List.length_cons,Nat.pow_succ]
   have e:(10*n+d)*10 ^ l.length=n*(10 ^ l.length*10)+d*10 ^ l.length:=by
    rw[Nat.add_mul];congr 1
    rw[Nat.mul_comm 10 n,Nat.mul_assoc,Nat.mul_comm 10]
   omega
theorem numD_cons (d:Nat) (l:List Nat):numD (d::l)=d*10 ^ l.length+numD l:=by
 show List.foldl _ (10*0+d) l=_
 rw[numF_eq l];simp
theorem numD_append (a b:List Nat):numD (a++b)=numD a*10 ^ b.length+numD b:=by
 rw[numD,List.foldl_append,numF_eq];rfl
theorem numD_zeros:∀k,numD (List.replicate k 0)=0
 | 0=>rfl
 | k+1=>by rw[List.replicate_succ,numD_cons,numD_zeros k];simp
theorem numD_zero:∀l:List Nat,numD l=0↔∀d∈l,d=0
 | []=>by simp[numD]
 | d::l=>by
   rw[numD_cons,Nat.add_eq_zero_iff,numD_zero l,Nat.mul_eq_zero]
   have:(10 ^ l.length:Nat)≠0:=Nat.ne_of_gt (Nat.pow_pos (by omega))
   simp[this]
theorem any_ne (l:List Nat):(l.any fun d=>decide (d≠0))=decide (numD l≠0):=by
 rw[Bool.eq_iff_iff]
 simp only[List.any_eq_true,decide_eq_true_eq,ne_eq,numD_zero]
 constructor
 ·rintro⟨x,hx,hn⟩ hall;exact hn (hall x hx)
 ·intro h
  exact Classical.byContradiction fun hno=>h fun d hd=>Classical.byContradiction fun hne=>hno ⟨d,hd,hne⟩
theorem dbl_num:∀l:List Nat,(dbl l).1*10 ^ l.length+numD (dbl l).2=2*numD l
 | []=>rfl
 | d::l=>by
   have ih:=dbl_num l
   simp only[dbl,numD_cons,dbl_len,List.length_cons,Nat.pow_succ]
   generalize numD l=A at*
   generalize numD (dbl l).2=B at*
   generalize (dbl l).1=c at*
   generalize 10 ^ l.length=p at*
   have e1:(2*d+c) / 10*(p*10)+(2*d+c) % 10*p=(2*d+c)*p:=by
    have:=Nat.div_add_mod (2*d+c) 10
    generalize (2*d+c) / 10=q at*
    generalize (2*d+c) % 10=r at*
    rw[←this,Nat.add_mul,Nat.mul_comm p 10,←Nat.mul_assoc,Nat.mul_comm q 10]
   have e2:(2*d+c)*p=2*(d*p)+c*p:=by rw[Nat.add_mul,Nat.mul_assoc]
   omega
theorem bitsF_num:∀(m n:Nat) (l:List Nat),(bitsF m n l).1*10 ^ l.length+numD (bitsF m n l).2=(n*10 ^ l.length+numD l)*2 ^ m∧(bitsF m n l).2.length=l.length
 | 0,n,l=>by simp[bitsF]
 | m+1,n,l=>by
   have ih:=bitsF_num m (2*n+(dbl l).1) (dbl l).2
   have hd:=dbl_num l
   simp only[bitsF,dbl_len]at*
   refine⟨?_,ih.2⟩
   rw[ih.1,Nat.pow_succ]
   generalize numD l=A at*
   generalize numD (dbl l).2=B at*
   generalize (dbl l).1=c at*
   generalize 10 ^ l.length=p at*
   have e:(2*n+c)*p+B=(n*p+A)*2:=by
    rw[Nat.add_mul,Nat.mul_assoc];omega
   rw[e,Nat.mul_assoc,Nat.mul_comm 2]
theorem mul1_num:∀l:List Nat,(mul1 l).2*10 ^ l.length+numD (mul1 l).1=131072*numD l
 | []=>rfl
 | d::l=>by
   have ih:=mul1_num l
   simp only[mul1,numD_cons,mul1_len,List.length_cons,Nat.pow_succ]
   generalize numD l=A at*
   generalize numD (mul1 l).1=B at*
   generalize (mul1 l).2=c at*
   generalize 10 ^ l.length=p at*
   generalize hM:131072=M at*
   have e1:(M*d+c) / 10*(p*10)+(M*d+c) % 10*p=(M*d+c)*p:=by
    have:=Nat.div_add_mod (M*d+c) 10
    generalize (M*d+c) / 10=q at*
    generalize (M*d+c) % 10=r at*
    rw[←this,Nat.add_mul,Nat.mul_comm p 10,←Nat.mul_assoc,Nat.mul_comm q 10]
   have e2:(M*d+c)*p=M*(d*p)+c*p:=by rw[Nat.add_mul,Nat.mul_assoc]
   rw[Nat.mul_add]
   omega
theorem pad_num:∀k c:Nat,numD (pad k c)=c % 10 ^ k
 | 0,c=>by simp[pad,numD,Nat.mod_one]
 | k+1,c=>by
   rw[pad,numD_append,pad_num k,numD_cons,Nat.pow_succ,Nat.mul_comm (10 ^ k) 10,Nat.mod_mul]
   simp[numD];omega
theorem timesS_num {l:List Nat} (hd:∀d∈l,d<10):numD (timesS l)=131072*numD l∧(timesS l).length=l.length+6∧∀d∈timesS l,d<10:=by
 refine⟨?_,?_,?_⟩
 ·rw[timesS,numD_append,pad_num,mul1_len,Nat.mod_eq_of_lt (by have:=mul1_lt l hd;omega)]
  exact mul1_num l
 ·simp[timesS,pad_len,mul1_len];omega
 ·intro d h
  rcases List.mem_append.1 h with h | h
  ·exact pad_dig _ _ d h
  ·exact mul1_dig _ d h
theorem accD_zero:∀(l:List Nat) (N:Nat) (r:Bool),accD 0 l N r=(N,r || decide (numD l≠0))
 | [],N,r=>by simp[accD,numD]
 | d::l,N,r=>by
   rw[accD,accD_zero l,←any_ne,←any_ne];simp[Bool.or_assoc]
theorem accD_num:∀(k:Nat) (l:List Nat) (n:Nat) (r:Bool),k≤l.length→accD k l (min n 1099511627776) r=(min (n*10 ^ k+numD (l.take k)) 1099511627776,r || decide (numD (l.drop k)≠0))
 | 0,l,n,r,_=>by rw[accD_zero];simp only[Nat.pow_zero,Nat.mul_one,List.take_zero,List.drop_zero];rfl
 | k+1,[],n,r,h=>by simp at h
 | k+1,d::l,n,r,h=>by
   rw[accD]
   have hm:min (10*min n 1099511627776+d) 1099511627776=min (10*n+d) 1099511627776:=by omega
   have hk:k≤l.length:=by simpa using h
   rw[hm,accD_num k l _ r hk,List.take_succ_cons,List.drop_succ_cons,numD_cons,List.length_take,Nat.min_eq_left hk,Nat.pow_succ]
   congr 2
   have e:(10*n+d)*10 ^ k=n*(10 ^ k*10)+d*10 ^ k:=by
    rw[Nat.add_mul];congr 1
    rw[Nat.mul_comm 10 n,Nat.mul_assoc,Nat.mul_comm 10]
   omega
theorem take_drop_num {l:List Nat} (hd:∀d∈l,d<10) {k:Nat} (hk:k≤l.length):numD (l.take k)=numD l / 10 ^ (l.length - k)∧numD (l.drop k)=numD l % 10 ^ (l.length - k):=by
 have h1:numD l=numD (l.take k)*10 ^ (l.length - k)+numD (l.drop k):=by
  have:=numD_append (l.take k) (l.drop k)
  rwa[List.take_append_drop,List.length_drop]at this
 have h2:numD (l.drop k)<10 ^ (l.length - k):=by
  have:=numD_lt (l:=l.drop k) (fun d h=>hd d (List.mem_of_mem_drop h))
  rwa[List.length_drop]at this
 have hp:0<10 ^ (l.length - k):=Nat.pow_pos (by omega)
 constructor
 ·rw[h1,Nat.mul_comm,Nat.mul_add_div hp,Nat.div_eq_of_lt h2];simp
 ·rw[h1,Nat.mul_comm,Nat.mul_add_mod,Nat.mod_eq_of_lt h2]
def unitsN (l:List Nat) (ex:Int):Nat:=131072*numD l*10 ^ ex.toNat / 10 ^ (-ex).toNat
def unitsR (l:List Nat) (ex:Int):Bool:=decide (131072*numD l*10 ^ ex.toNat % 10 ^ (-ex).toNat≠0)
theorem acc_units {l:List Nat} (hd:∀d∈l,d<10) (ex:Int):accD (((l.length+6:Nat):Int)+ex).toNat (timesS l++List.replicate ex.toNat 0) 0 false=(min (unitsN l ex) 1099511627776,unitsR l ex):=by
 obtain⟨t1,t2,t3⟩:=timesS_num hd
 generalize hL:timesS l++List.replicate ex.toNat 0=L
 have hn:numD L=131072*numD l*10 ^ ex.toNat:=by
  rw[←hL,numD_append,numD_zeros,t1];simp
 have hlen:L.length=l.length+6+ex.toNat:=by rw[←hL];simp[t2]
 have hLd:∀d∈L,d<10:=by
  intro d h
  rw[←hL]at h
  rcases List.mem_append.1 h with h | h
  ·exact t3 d h
  ·rw[List.eq_of_mem_replicate h];omega
 generalize hC:(((l.length+6:Nat):Int)+ex).toNat=C
 have hCL:C≤L.length:=by omega
 have h0:=accD_num C L 0 false hCL
 rw[show min 0 1099511627776=0 from rfl]at h0
 rw[h0]
 obtain⟨k1,k2⟩:=take_drop_num hLd hCL
 simp only[Nat.zero_mul,Nat.zero_add,Bool.false_or]
 unfold unitsN unitsR
 rw[k1,k2,←hn]
 by_cases hpos:0≤((l.length+6:Nat):Int)+ex
 ·rw[show L.length - C=(-ex).toNat by omega]
 ·have hlt:=numD_lt hLd
  have e0:L.length - C=L.length:=by omega
  have hle:L.length≤(-ex).toNat:=by omega
  have hlt2:=Nat.lt_of_lt_of_le hlt (Nat.pow_le_pow_right (show 0<10 by omega) hle)
  rw[e0,Nat.div_eq_of_lt hlt,Nat.div_eq_of_lt hlt2,Nat.mod_eq_of_lt hlt,Nat.mod_eq_of_lt hlt2]
theorem frontF_num:∀(l:List Nat) (n:Nat),n≤2147483648→(2147483648<frontF n l↔2147483648<n*10 ^ l.length+numD l)∧(frontF n l≤2147483648→frontF n l=n*10 ^ l.length+numD l)
 | [],n,h=>by simp[frontF,numD]
 | d::l,n,h=>by
   have e:(10*n+d)*10 ^ l.length=n*10 ^ (l.length+1)+d*10 ^ l.length:=by
    rw[Nat.add_mul,Nat.pow_succ];congr 1
    rw[Nat.mul_comm 10 n,Nat.mul_assoc,Nat.mul_comm 10]
   have hp:1≤10 ^ l.length:=Nat.pow_pos (by omega)
   rw[frontF,numD_cons,List.length_cons]
   split
   ·rename_i hb
    have:=Nat.mul_le_mul (Nat.le_refl (10*n+d)) hp
    refine⟨⟨fun _=>by omega,fun _=>hb⟩,fun h=>by omega⟩
   ·have ih:=frontF_num l (10*n+d) (by omega)
    rw[e,Nat.add_assoc]at ih
    exact ih
theorem getD_range (l:List Nat):∀n,(List.range n).map (fun i=>l.getD i 0)=l.take n++List.replicate (n - l.length) 0
 | 0=>by simp
 | n+1=>by
   rw[List.range_succ,List.map_append,getD_range l n]
   by_cases h:n<l.length
   ·rw[show n - l.length=0 by omega,show n+1 - l.length=0 by omega,List.take_add_one]
    simp[List.getElem?_eq_getElem h]
   ·rw[List.take_of_length_le (by omega),List.take_of_length_le (by omega),show n+1 - l.length=(n - l.length)+1 by omega,List.replicate_succ']
    simp[List.getElem?_eq_none (show l.length≤n by omega)]
theorem parts_num {l:List Nat} (pt:Int):numD (intD l pt)*10 ^ (fracD l pt).length+numD (fracD l pt)=numD l*10 ^ (pt - (l.length:Int)).toNat∧(fracD l pt).length=(-(pt - (l.length:Int))).toNat:=by
 unfold intD fracD
 rw[getD_range]
 have hlen:(List.replicate (-pt).toNat 0++l.drop pt.toNat).length=(-(pt - (l.length:Int))).toNat:=by
  simp;omega
 refine⟨?_,hlen⟩
 rw[hlen]
 by_cases h0:pt<0
 ·rw[show pt.toNat=0 by omega,show (pt - (l.length:Int)).toNat=0 by omega]
  rw[numD_append (List.replicate (-pt).toNat 0),numD_zeros]
  simp[numD]
 ·rw[show (-pt).toNat=0 by omega]
  by_cases h1:pt.toNat≤l.length
  ·have:=numD_append (l.take pt.toNat) (l.drop pt.toNat)
   rw[List.take_append_drop,List.length_drop]at this
   rw[show pt.toNat - l.length=0 by omega,show (pt - (l.length:Int)).toNat=0 by omega,show (-(pt - (l.length:Int))).toNat=l.length - pt.toNat by omega]
   simp[this]
  ·rw[List.take_of_length_le (by omega),List.drop_of_length_le (by omega),numD_append,numD_zeros,List.length_replicate,show (-(pt - (l.length:Int))).toNat=0 by omega,show pt.toNat - l.length=(pt - (l.length:Int)).toNat by omega]
   simp[numD]
theorem bits_units {l:List Nat} {pt:Int} (hd:∀d∈l,d<10) (hf:frontF 0 (intD l pt)≤2147483648):unitsN l (pt - (l.length:Int))=2*(bitsF 16 (frontF 0 (intD l pt)) (fracD l pt)).1+(dbl (bitsF 16 (frontF 0 (intD l pt)) (fracD l pt)).2).1∧
  unitsR l (pt - (l.length:Int))=((dbl (bitsF 16 (frontF 0 (intD l pt)) (fracD l pt)).2).2.any fun d=>decide (d≠0)):=by
 obtain⟨p1,p2⟩:=parts_num (l:=l) pt
 have hF:=(frontF_num (intD l pt) 0 (by omega)).2 hf
 rw[Nat.zero_mul,Nat.zero_add]at hF
 rw[hF]
 have hfd:∀d∈fracD l pt,d<10:=by
  intro d h
  unfold fracD at h
  rcases List.mem_append.1 h with h | h
  ·rw[List.eq_of_mem_replicate h];omega
  ·exact hd d (List.mem_of_mem_drop h)
 generalize intD l pt=I at*
 generalize fracD l pt=f at*
 obtain⟨b1,b2⟩:=bitsF_num 16 (numD I) f
 generalize bitsF 16 (numD I) f=b at*
 have d1:=dbl_num b.2
 have d2:=numD_lt (l:=(dbl b.2).2) (dbl_lt b.2)
 rw[dbl_len]at d2
 rw[b2]at d1 d2
 rw[any_ne]
 unfold unitsN unitsR
 rw[←p2]
 have e:131072*numD l*10 ^ (pt - (l.length:Int)).toNat=10 ^ f.length*(2*b.1+(dbl b.2).1)+numD (dbl b.2).2:=by
  rw[Nat.mul_assoc,←p1,Nat.mul_add (10 ^ f.length),Nat.mul_comm (10 ^ f.length),Nat.mul_comm (10 ^ f.length),Nat.mul_assoc 2]
  have e2:(numD I*10 ^ f.length+numD f)*2 ^ 16=65536*(numD I*10 ^ f.length+numD f):=Nat.mul_comm _ _
  generalize numD I*10 ^ f.length+numD f=Y at*
  generalize b.1*10 ^ f.length=A at*
  generalize (dbl b.2).1*10 ^ f.length=C at*
  omega
 rw[e]
 have hp:0<10 ^ f.length:=Nat.pow_pos (by omega)
 rw[Nat.mul_add_div hp,Nat.div_eq_of_lt d2,Nat.mul_add_mod,Nat.mod_eq_of_lt d2]
 simp
theorem front_units {l:List Nat} {pt:Int} (hf:2147483648<frontF 0 (intD l pt)):1099511627776≤unitsN l (pt - (l.length:Int)):=by
 obtain⟨p1,p2⟩:=parts_num (l:=l) pt
 have hF:=(frontF_num (intD l pt) 0 (by omega)).1.1 hf
 rw[Nat.zero_mul,Nat.zero_add]at hF
 unfold unitsN
 rw[←p2,Nat.mul_assoc,←p1]
 have hp:0<10 ^ (fracD l pt).length:=Nat.pow_pos (by omega)
 rw[Nat.le_div_iff_mul_le hp,Nat.mul_add]
 generalize 10 ^ (fracD l pt).length=p at*
 have:=Nat.mul_le_mul (show 8388608≤numD (intD l pt)by omega) (Nat.le_refl p)
 generalize numD (intD l pt)*p=A at*
 generalize numD (fracD l pt)=B at*
 omega
theorem bitsF_dig:∀(m n:Nat) (l:List Nat),(∀d∈l,d<10)→∀d∈(bitsF m n l).2,d<10
 | 0,n,l,h=>h
 | m+1,n,l,h=>bitsF_dig m _ _ (dbl_lt l)
theorem fracD_dig {l:List Nat} (hd:∀d∈l,d<10) (pt:Int):∀d∈fracD l pt,d<10:=by
 intro d h
 unfold fracD at h
 rcases List.mem_append.1 h with h | h
 ·rw[List.eq_of_mem_replicate h];omega
 ·exact hd d (List.mem_of_mem_drop h)
theorem round_half {u B c:Nat} (h:u=2*B+c) (hc:c≤1) (neg r:Bool):(let n:=if c=1∧(neg=false∨r=true)then B+1 else B;let v:Int:=if neg=true then -(n:Int)else n;if -2147483648≤v∧v≤2147483648 then some v else none)=
  (let R:=((if neg=true then(if r=true then -((min u 1099511627776:Nat):Int) - 1 else -((min u 1099511627776:Nat):Int))else((min u 1099511627776:Nat):Int))+1) / 2;if -2147483648≤R∧R≤2147483648 then some R else none):=by
 have hc:c=0∨c=1:=by omega
 by_cases hu:u≤1099511627776
 ·rw[Nat.min_eq_left hu]
  have key:∀v w:Int,v=w→(if -2147483648≤v∧v≤2147483648 then some v else none)=(if -2147483648≤w∧w≤2147483648 then some w else none):=by rintro v _ rfl;rfl
  apply key
  rcases hc with rfl | rfl <;> cases neg <;> cases r <;> simp <;> omega
 ·rw[Nat.min_eq_right (by omega)]
  have key:∀v w:Int,¬(-2147483648≤v∧v≤2147483648)→¬(-2147483648≤w∧w≤2147483648)→(if -2147483648≤v∧v≤2147483648 then some v else none)=(if -2147483648≤w∧w≤2147483648 then some w else none):=by intro v w h1 h2;rw[if_neg h1,if_neg h2]
  apply key
  ·rcases hc with rfl | rfl <;> cases neg <;> cases r <;> simp <;> omega
  ·cases neg <;> cases r <;> simp
theorem val_law {l:List Nat} (hd:∀d∈l,d<10) (neg:Bool) (pt:Int):valS neg l pt=if -2147483648≤roundR neg l (pt - l.length)∧roundR neg l (pt - l.length)≤2147483648 then some (roundR neg l (pt - l.length))else none:=by
 have ha:=acc_units hd (pt - l.length)
 unfold valS roundR
 rw[ha]
 by_cases hf:2147483648<frontF 0 (intD l pt)
 ·have hu:=front_units hf
  rw[if_pos hf,if_neg]
  generalize unitsN l (pt - (l.length:Int))=u at*
  generalize unitsR l (pt - (l.length:Int))=r at*
  rw[Nat.min_eq_right hu]
  cases neg <;> cases r <;> simp
 ·rw[if_neg hf]
  obtain⟨u1,u2⟩:=bits_units hd (Nat.not_lt.1 hf)
  have c1:=dbl_carry _ (bitsF_dig 16 (frontF 0 (intD l pt)) _ (fracD_dig hd pt))
  clear ha hf hd
  dsimp only
  generalize bitsF 16 (frontF 0 (intD l pt)) (fracD l pt)=b at*
  generalize unitsN l (pt - (l.length:Int))=u at*
  generalize unitsR l (pt - (l.length:Int))=r at*
  subst u2
  generalize ((dbl b.2).2.any fun d=>decide (d≠0))=r at*
  generalize (dbl b.2).1=c at*
  generalize b.1=B at*
  have h:=round_half u1 c1 neg r
  dsimp only at h
  exact h
end Go.Ev

/- LexNumbers: the marks, drawn into a text. -/
namespace Go.Ev
open Go
set_option linter.unusedSimpArgs false
set_option linter.unusedSectionVars false
set_option linter.unusedVariables false
variable {T : Tab} {st : St}
end Go.Ev

/- LexNumbers told, if Number and Word are the reference's. -/
namespace Go.Ev
open Go
set_option linter.unusedSimpArgs false
set_option linter.unusedSectionVars false
set_option linter.unusedVariables false
variable {T : Tab} {st : St}
end Go.Ev

/- The plain law of numbers: the mark's decimals and the reference's. -/
namespace Go.Ev
open Go
set_option linter.unusedSimpArgs false
set_option linter.unusedSectionVars false
set_option linter.unusedVariables false
theorem sgn_len1 (s:List UInt8):s.length≤(sgn s).2.length+1:=by
 cases s with
 | nil=>simp
 | cons c r=>
   simp only[sgn]
   split
   ·simp
   ·split <;> simp
theorem tail_len1 {α:Type} (l:List α):l.length≤l.tail.length+1:=by cases l <;> simp
theorem short_len {s:List UInt8} (h:decD s≠none):(shorten false true s).length≤12:=by
 have ht:decD (shorten false true s)≠none:=fun hn=>h ((decD_shorten s).1 hn)
 have q1:=sgn_shorten s
 obtain⟨a1,_,a3⟩:=spanD_shorten (sgn s).2
 generalize hT:shorten false true s=t at*
 have l1:=sgn_len1 t
 have l2:=spanD_len (sgn t).2
 have hs2:(sgn t).2=shorten false true (sgn s).2:=by rw[q1]
 rw[←hs2]at a1 a3
 have hR:(spanD (sgn t).2).2.length≤(decR t).length+2:=by
  unfold decR
  split
  ·rename_i hp
   have hp':oneB [46] (spanD (sgn s).2).2=true:=by
    rw[a1,(shorten_head _).2]at hp;exact hp
   have e:=shorten_tail hp'
   rw[a1,e]
   obtain⟨_,_,b3⟩:=spanD_shorten (spanD (sgn s).2).2.tail
   have l3:=spanD_len (shorten false true (spanD (sgn s).2).2.tail)
   have l4:=tail_len1 (shorten false true (spanD (sgn s).2).2)
   rw[e]at l4
   omega
  ·omega
 have hE:(decR t).length≤5:=by
  unfold decD at ht
  split at ht
  ·exact absurd rfl ht
  ·split at ht
   ·split at ht
    ·exact absurd rfl ht
    ·rename_i hb
     split at ht
     ·rename_i hz
      have l5:=tail_len1 (decR t)
      have l6:=sgn_len1 (decR t).tail
      have l7:=spanD_len (sgn (decR t).tail).2
      rw[hz]at l7
      simp only[List.length_nil]at l7
      omega
     ·exact absurd rfl ht
   ·split at ht
    ·rename_i hz;simp[hz]
    ·exact absurd rfl ht
 omega
theorem parseS_kind {t:List UInt8} (hl:t.length≤40):(decD t=none→(parseS t).2=5)∧(decD t≠none→(parseS t).2=0∨(parseS t).2=6):=by
 unfold parseS
 rw[if_neg (by omega)]
 cases decD t with
 | none=>simp
 | some q=>
   obtain⟨neg,l,pt⟩:=q
   refine⟨fun h=>(by cases h),fun _=> ?_⟩
   simp only
   split
   ·exact .inl rfl
   ·exact .inr rfl
theorem patS_eq (s:List UInt8):patS s=(decD s).isSome:=by
 unfold patS
 cases hd:decD s with
 | none=>
   have h0:=(decD_shorten s).2 hd
   by_cases hl:41<(shorten false true s).length
   ·simp[hl]
   ·have h:(parseS (shorten false true s)).2=5∨(parseS (shorten false true s)).2=3:=by
     by_cases h40:(shorten false true s).length≤40
     ·exact .inl ((parseS_kind h40).1 h0)
     ·unfold parseS;rw[if_pos (by omega)];exact .inr rfl
    rcases h with h | h <;> simp[h]
 | some p=>
   have hl:=short_len (s:=s) (by rw[hd];simp)
   have hn:decD (shorten false true s)≠none:=fun h=>by rw[(decD_shorten s).1 h]at hd;cases hd
   rcases(parseS_kind (by omega)).2 hn with h | h <;> simp[h] <;> omega
theorem parse_law (s:List UInt8):parseS s=parseR s:=by
 unfold parseS parseR
 split
 ·rfl
 ·rw[readR_D]
  cases hd:decD s with
  | none=>rfl
  | some p=>
    obtain⟨neg,l,pt⟩:=p
    have:=val_law (decD_facts hd).2.1 neg pt
    show (match valS neg l pt with | some v=>(v,(0:Int)) | none=>(0,6))=if -2147483648≤roundR neg l (pt - l.length)∧roundR neg l (pt - l.length)≤2147483648 then(roundR neg l (pt - l.length),0)else(0,6)
    rw[this]
    by_cases hP: -2147483648≤roundR neg l (pt - l.length)∧roundR neg l (pt - l.length)≤2147483648
    ·rw[if_pos hP,if_pos hP]
    ·rw[if_neg hP,if_neg hP]
theorem dec_law {s:List UInt8} (h:¬0≤cntR 10 (unsign s).1):(match readR s with
   | none=>((0,0,5):Tk)
   | some _=>if(parseR s).2≠0 then(0,0,26)else(2,(parseR s).1,0))=decT s:=by
 unfold decT
 rw[patS_eq,readR_D,parse_law]
 cases hd:decD s with
 | none=>simp
 | some p=>
   have ha:anyOf [46,101,69] s=true:=by
    cases ha:anyOf [46,101,69] s with
    | true=>rfl
    | false=>exact absurd (plain_int ha (by rw[hd];simp)) h
   simp[ha]
theorem num_law (s:List UInt8):numR s=numT s:=by
 unfold numT numR
 rw[whole_law,radix_law]
 by_cases h:0≤cntR 10 (unsign s).1
 ·simp only[if_pos h]
  rw[if_pos (ansT_not5 _ _)]
 ·have hd:=dec_law h
  simp only[if_neg h]
  cases tryR s 1 with
  | some n=>simp[ansT_not5]
  | none=>
    cases tryR s 2 with
    | some n=>simp[ansT_not5]
    | none=>exact hd.trans (by simp)
theorem word_law (s:List UInt8):wordR s=wordT s:=by
 unfold wordR wordT
 rw[num_law]
end Go.Ev

/- The abstract bodies of the functions, printed by a program of this work. -/
namespace Go.Ev.B
open Go
def chaseref03_Draft_Token_l0:MCode:=(.seq (.keep [1,2,3,4,5]) (.seq (.seq (.reg [p 37 (.mov 5),p 38 (.faddr 2 1),r 39 (.load none 38),p 40 (.lenOf true 39),p 41 (.bin .lss
 37 40),p 42 (.mov 41),pg 43 42 true (.mov 5),pg 44 42 true (.bin .lss 43 (.k (.int .i64 20))),p 45 (.pick 42 44 (.k (.bool false)))]) (.cond 45 .skip (.exit 1))) (.seq (.keep [1,
 2,3,4,5]) (.seq (.block 2 (.seq (.reg [p 48 (.faddr 2 1),r 49 (.load none 48),p 50 (.mov 5),p 51 (.idxS 49 50),w 52 (.call (.k (.fn 68 [] [])) [51])]) (.cond 52 (.reg [p 53 (.mov
 4),p 54 (.faddr 2 1),r 55 (.load none 54),p 56 (.mov 5),p 57 (.idxS 55 56),n 58 (.buildSl 5 1 [(.int .u8 0)] [(0,1,57)]),w 59 (.append 5 1 1 [(.int .u8 0)] 53 58),p 4 (.mov
 59)]) .skip))) (.seq (.keep [1,2,3,4,5]) (.reg [p 46 (.mov 5),p 47 (.bin .add 46 (.k (.int .i64 1))),p 5 (.mov 47)]))))))
def chaseref03_Draft_Token:MFun:=⟨1,[.cell 2 (some 3)],(.seq (.reg [n 1 (.box 205 true 0),n 2 (.alloc 134 true [(.int .i64 0),(.int .i64 0),(.str [])])]) (.seq (.reg [p 7 (.faddr
 0 1),r 8 (.load none 7),p 9 (.bin .rem 8 (.k (.int .u8 8))),p 10 (.conv .i64 9),p 11 (.bin .add (.k (.int .i64 1)) 10),p 3 (.mov 11)]) (.seq (.seq (.reg [p 12 (.mov 3)]) (.block
 0 (.seq (.seq (.reg [p 14 (.bin .eql 12 (.k (.int .i64 1))),p 13 (.mov 14)]) (.cond 13 .skip (.reg [p 15 (.bin .eql 12 (.k (.int .i64 2))),p 13 (.mov 15)]))) (.cond 13 (.seq (.reg
 [p 16 (.mov 3),p 17 (.faddr 1 1),r 18 (.load none 17),p 19 (.conv .i64 18),p 20 (.build [(.int .i64 0),(.int .i64 0),(.str [])] [(0,1,16),(1,1,19)]),w0 (.store 3 2 20)])
 .ret) (.seq (.reg [p 22 (.bin .eql 12 (.k (.int .i64 6))),p 21 (.mov 22)]) (.cond 21 (.seq (.reg [p 23 (.mov 3),p 24 (.faddr 2 1),r 25 (.load none 24),p 26 (.faddr 2 1),r 27 (.load
 none 26),p 28 (.lenOf true 27),p 29 (.minmax false [28,(.k (.int .i64 60))]),p 30 (.subS 25 none (some 29)),p 31 (.build [(.int .i64 0),(.int .i64 0),(.str [])] [(0,1,23),
 (2,1,30)]),w0 (.store 3 2 31)]) .ret) (.seq (.seq (.reg [p 33 (.bin .eql 12 (.k (.int .i64 7))),p 32 (.mov 33)]) (.cond 32 .skip (.reg [p 34 (.bin .eql 12 (.k (.int .i64 8))),p
 32 (.mov 34)]))) (.cond 32 (.seq (.reg [p 35 (.mov 3),p 36 (.build [(.int .i64 0),(.int .i64 0),(.str [])] [(0,1,35)]),w0 (.store 3 2 36)]) .ret) .skip)))))))) (.seq (.keep [1,
 2,3]) (.seq (.reg [p 4 (.mov (.k .nilslice))]) (.seq (.seq (.reg [p 5 (.mov (.k (.int .i64 0)))]) (.block 1 (.loop chaseref03_Draft_Token_l0))) (.seq (.keep [1,2,3,4]) (.seq (.reg
 [p 60 (.mov 3),p 61 (.mov 4),r 62 (.b2s 61),p 63 (.build [(.int .i64 0),(.int .i64 0),(.str [])] [(0,1,60),(2,1,62)]),n 6 (.alloc 134 true [(.int .i64 0),(.int .i64 0),
 (.str [])]),w0 (.store 3 6 63)]) (.seq (.seq (.reg [p 64 (.mov 3),p 65 (.bin .eql 64 (.k (.int .i64 3))),p 66 (.mov 65),rg 67 66 true (.load (some 3) 6),wg 68 66 true (.call (.k
 (.fn 129 [] [])) [67]),pg 69 66 true (.un .not 68),p 70 (.pick 66 69 (.k (.bool false)))]) (.cond 70 (.reg [n 71 (.buildSl 9 7 [(.str []),(.str []),(.str []),(.str []),(.str []),
 (.str []),(.str [])] [(0,1,(.k (.str [97]))),(1,1,(.k (.str [91]))),(2,1,(.k (.str [93]))),(3,1,(.k (.str [60,60]))),(4,1,(.k (.str [62,62]))),(5,1,(.k (.str [120,
 45,49]))),(6,1,(.k (.str [61])))]),p 72 (.faddr 0 1),r 73 (.load none 72),p 74 (.bin .quo 73 (.k (.int .u8 8))),p 75 (.bin .rem 74 (.k (.int .u8 7))),p 76 (.iaddrS 1 71 75),
 r 77 (.load none 76),p 78 (.faddr 2 6),w0 (.store 1 78 77)]) .skip)) (.seq (.keep [2,6]) (.seq (.reg [r 79 (.load (some 3) 6),w0 (.store 3 2 79)]) .ret)))))))))))⟩
def lex_Text:MFun:=⟨1,[.t 2,.t 3],(.seq (.reg [n 1 (.box 134 true 0),p 2 (.mov (.k (.str []))),p 3 (.mov (.k (.int .i64 0)))]) (.seq (.seq (.reg [r 5 (.load (some 3) 1),w
 6 (.call (.k (.fn 74 [] [])) [5]),p 4 (.mov 6)]) (.seq (.reg [p 7 (.mov 4),p 8 (.bin .neq 7 (.k (.int .i64 0)))]) (.cond 8 (.seq (.reg [p 9 (.mov 4),p 2 (.mov (.k (.str []))),p
 3 (.mov 9)]) .ret) .skip))) (.seq (.keep [1]) (.seq (.seq (.reg [p 10 (.faddr 0 1),r 11 (.load none 10)]) (.block 0 (.seq (.reg [p 13 (.bin .eql 11 (.k (.int .i64 1))),p 12 (.mov
 13)]) (.cond 12 (.seq (.reg [p 14 (.faddr 1 1),r 15 (.load none 14),w 16 (.call (.k (.fn 132 [] [])) [15]),p 2 (.mov 16),p 3 (.mov (.k (.int .i64 0)))]) .ret) (.seq (.reg [p 18
 (.bin .eql 11 (.k (.int .i64 2))),p 17 (.mov 18)]) (.cond 17 (.seq (.reg [p 19 (.faddr 1 1),r 20 (.load none 19),w 21 (.call (.k (.fn 133 [] [])) [20]),p 22 (.extr 0 21),p 23 (.extr
 1 21),p 2 (.mov 22),p 3 (.mov 23)]) .ret) (.seq (.reg [p 25 (.bin .eql 11 (.k (.int .i64 4))),p 24 (.mov 25)]) (.cond 24 (.seq (.reg [p 26 (.faddr 2 1),r 27 (.load none 26),p 28
 (.bin .add (.k (.str [47])) 27),p 2 (.mov 28),p 3 (.mov (.k (.int .i64 0)))]) .ret) (.seq (.reg [p 30 (.bin .eql 11 (.k (.int .i64 5))),p 29 (.mov 30)]) (.cond 29 (.seq (.reg [p
 31 (.faddr 2 1),r 32 (.load none 31),p 33 (.bin .add (.k (.str [47,47])) 32),p 2 (.mov 33),p 3 (.mov (.k (.int .i64 0)))]) .ret) (.seq (.reg [p 35 (.bin .eql 11 (.k (.int .i64
 6))),p 34 (.mov 35)]) (.cond 34 (.seq (.reg [p 36 (.faddr 2 1),r 37 (.load none 36),w 38 (.call (.k (.fn 71 [] [])) [37]),p 2 (.mov 38),p 3 (.mov (.k (.int .i64 0)))]) .ret) (.seq
 (.reg [p 40 (.bin .eql 11 (.k (.int .i64 7))),p 39 (.mov 40)]) (.cond 39 (.seq (.reg [p 2 (.mov (.k (.str [123]))),p 3 (.mov (.k (.int .i64 0)))]) .ret) (.seq (.reg [p 42 (.bin .eql
 11 (.k (.int .i64 8))),p 41 (.mov 42)]) (.cond 41 (.seq (.reg [p 2 (.mov (.k (.str [125]))),p 3 (.mov (.k (.int .i64 0)))]) .ret) .skip)))))))))))))))) (.seq (.keep [1]) (.seq (.reg
 [p 43 (.faddr 2 1),r 44 (.load none 43),p 2 (.mov 44),p 3 (.mov (.k (.int .i64 0)))]) .ret))))))⟩
def chaseref03_Right:MFun:=⟨1,[.t 2],(.seq (.reg [n 1 (.box 134 true 0),p 2 (.mov (.k (.bool false)))]) (.seq (.seq (.reg [p 5 (.faddr 0 1),r 6 (.load none 5),p 7 (.bin .neq
 6 (.k (.int .i64 1))),p 8 (.mov 7),pg 9 8 true (.faddr 0 1),rg 10 8 true (.load none 9),pg 11 8 true (.bin .neq 10 (.k (.int .i64 2))),p 12 (.pick 8 11 (.k (.bool false))),p 13
 (.mov 12),pg 14 13 true (.faddr 1 1),rg 15 13 true (.load none 14),pg 16 13 true (.bin .neq 15 (.k (.int .i64 0))),p 17 (.pick 13 16 (.k (.bool false)))]) (.seq (.keep [1,17])
 (.cond 17 (.seq (.reg [p 2 (.mov (.k (.bool false)))]) .ret) .skip))) (.seq (.keep [1]) (.seq (.seq (.reg [p 18 (.faddr 0 1),r 19 (.load none 18)]) (.block 0 (.seq (.reg [p 21 (.bin
 .eql 19 (.k (.int .i64 1))),p 20 (.mov 21)]) (.cond 20 (.seq (.reg [p 22 (.faddr 2 1),r 23 (.load none 22),p 24 (.bin .eql 23 (.k (.str []))),p 25 (.mov 24),pg 26 25 true (.faddr
 1 1),rg 27 25 true (.load none 26),pg 28 25 true (.bin .geq 27 (.k (.int .i64 (-2147483648)))),p 29 (.pick 25 28 (.k (.bool false))),p 30 (.mov 29),pg 31 30 true (.faddr 1 1),
 rg 32 30 true (.load none 31),pg 33 30 true (.bin .leq 32 (.k (.int .i64 2147483647))),p 34 (.pick 30 33 (.k (.bool false))),p 2 (.mov 34)]) .ret) (.seq (.reg [p 36 (.bin .eql 19
 (.k (.int .i64 2))),p 35 (.mov 36)]) (.cond 35 (.seq (.reg [p 37 (.faddr 2 1),r 38 (.load none 37),p 39 (.bin .eql 38 (.k (.str []))),p 40 (.mov 39),pg 41 40 true (.faddr 1 1),
 rg 42 40 true (.load none 41),wg 43 40 true (.call (.k (.fn 105 [] [])) [42]),p 44 (.pick 40 43 (.k (.bool false))),p 2 (.mov 44)]) .ret) (.seq (.reg [p 46 (.bin .eql 19 (.k (.int
 .i64 3))),p 45 (.mov 46)]) (.cond 45 (.seq (.seq (.reg [p 47 (.faddr 2 1),r 48 (.load none 47),p 49 (.bin .eql 48 (.k (.str [91]))),p 50 (.mov 49),pg 51 50 false (.faddr 2 1),
 rg 52 50 false (.load none 51),pg 53 50 false (.bin .eql 52 (.k (.str [93]))),p 54 (.pick 50 (.k (.bool true)) 53),p 55 (.mov 54),pg 56 55 false (.faddr 2 1),rg 57 55 false (.load
 none 56),pg 58 55 false (.bin .eql 57 (.k (.str [60,60]))),p 59 (.pick 55 (.k (.bool true)) 58),p 60 (.mov 59),pg 61 60 false (.faddr 2 1),rg 62 60 false (.load none 61),pg 63
 60 false (.bin .eql 62 (.k (.str [62,62]))),p 64 (.pick 60 (.k (.bool true)) 63)]) (.seq (.keep [1,64]) (.cond 64 (.seq (.reg [p 2 (.mov (.k (.bool true)))]) .ret) .skip))) (.seq
 (.keep [1]) (.seq (.reg [p 66 (.faddr 2 1),r 67 (.load none 66),w 68 (.call (.k (.fn 64 [] [])) [67]),p 65 (.mov 68),p 69 (.extr 0 65),p 70 (.extr 1 65),n 3 (.alloc 134 true [(.int
 .i64 0),(.int .i64 0),(.str [])]),w0 (.store 3 3 69),p 4 (.mov 70)]) (.seq (.keep [1,4]) (.seq (.reg [p 71 (.faddr 2 1),r 72 (.load none 71),p 73 (.bin .neq 72 (.k (.str []))),
 p 74 (.mov 73),pg 75 74 true (.faddr 2 1),rg 76 74 true (.load none 75),pg 77 74 true (.lenOf true 76),pg 78 74 true (.bin .leq 77 (.k (.int .i64 100))),p 79 (.pick 74 78 (.k (.bool
 false))),p 80 (.mov 79),pg 81 80 true (.faddr 2 1),rg 82 80 true (.load none 81),wg 83 80 true (.call (.k (.fn 83 [] [])) [82]),p 84 (.pick 80 83 (.k (.bool false))),p 85 (.mov
 84),pg 86 85 true (.mov 4),pg 87 85 true (.bin .eql 86 (.k (.int .i64 5))),p 88 (.pick 85 87 (.k (.bool false))),p 2 (.mov 88)]) .ret))))) (.seq (.seq (.reg [p 90 (.bin .eql 19
 (.k (.int .i64 4))),p 89 (.mov 90)]) (.cond 89 .skip (.reg [p 91 (.bin .eql 19 (.k (.int .i64 5))),p 89 (.mov 91)]))) (.cond 89 (.seq (.reg [p 92 (.faddr 2 1),r 93 (.load none 92),
 p 94 (.lenOf true 93),p 95 (.bin .leq 94 (.k (.int .i64 100))),p 96 (.mov 95),pg 97 96 true (.faddr 2 1),rg 98 96 true (.load none 97),wg 99 96 true (.call (.k (.fn 83 [] []))
 [98]),p 100 (.pick 96 99 (.k (.bool false))),p 2 (.mov 100)]) .ret) (.seq (.reg [p 102 (.bin .eql 19 (.k (.int .i64 6))),p 101 (.mov 102)]) (.cond 101 (.seq (.reg [p 103 (.faddr
 2 1),r 104 (.load none 103),p 105 (.lenOf true 104),p 106 (.bin .leq 105 (.k (.int .i64 1000))),p 2 (.mov 106)]) .ret) (.seq (.seq (.reg [p 108 (.bin .eql 19 (.k (.int .i64 7))),
 p 107 (.mov 108)]) (.cond 107 .skip (.reg [p 109 (.bin .eql 19 (.k (.int .i64 8))),p 107 (.mov 109)]))) (.cond 107 (.seq (.reg [p 110 (.faddr 2 1),r 111 (.load none 110),p 112 (.bin
 .eql 111 (.k (.str []))),p 2 (.mov 112)]) .ret) .skip)))))))))))))) (.seq (.keep []) (.seq (.reg [p 2 (.mov (.k (.bool false)))]) .ret))))))⟩
def real_Print:MFun:=⟨1,[.t 2,.t 3],(.seq (.reg [n 1 (.box 3 true 0),p 2 (.mov (.k (.str []))),p 3 (.mov (.k (.int .i64 0)))]) (.seq (.reg [p 4 (.mkfn 136 [] [1]),r 5 (.load
 none 1),n 6 (.buildSl 3 1 [(.int .i64 0)] [(0,1,5)]),w 7 (.call (.k (.fn 137 [] [])) [4,6]),p 8 (.extr 0 7),p 9 (.extr 1 7),p 2 (.mov 8),p 3 (.mov 9)]) .ret))⟩
def real_Print_1_l0:MCode:=(.block 1 (.reg [p 19 (.mov 6),w 20 (.call (.k (.fn 91 [] [])) [4,19])]))
def real_Print_1_l1:MCode:=(.seq (.keep [4,7,8]) (.seq (.seq (.reg [p 24 (.mov 7),p 25 (.bin .gtr 24 (.k (.int .i64 0))),p 26 (.mov 25),pg 27 26 false (.mov 8),p 28 (.pick
 26 (.k (.bool true)) 27)]) (.cond 28 .skip (.exit 2))) (.seq (.block 3 (.seq (.reg [p 29 (.mov 7),p 30 (.bin .mul 29 (.k (.int .i64 10))),p 7 (.mov 30)]) (.seq (.reg [p 31 (.mov 7),
 p 32 (.bin .quo 31 (.k (.int .i64 65536))),p 33 (.conv .u8 32),p 34 (.bin .add (.k (.int .u8 48)) 33),w 35 (.call (.k (.fn 91 [] [])) [4,34])]) (.reg [p 36 (.mov 7),p 37 (.bin
 .rem 36 (.k (.int .i64 65536))),p 7 (.mov 37)])))) (.seq (.keep [4,7]) (.reg [p 8 (.mov (.k (.bool false)))])))))
def real_Print_1:MFun:=⟨1,[.t 1,.t 2,.t 3],(.seq (.reg [p 1 (.mov (.k (.str []))),p 2 (.mov (.k (.int .i64 0))),p 3 (.mov (.k (.int .i64 0)))]) (.seq (.reg [n 4 (.alloc 84
 false [.nilptr,.nilslice])]) (.seq (.reg [r 9 (.load none 0),p 5 (.mov 9)]) (.seq (.seq (.reg [p 10 (.mov 5),p 11 (.bin .lss 10 (.k (.int .i64 0)))]) (.cond 11 (.seq (.reg [w 12
 (.call (.k (.fn 91 [] [])) [4,(.k (.int .u8 45))])]) (.reg [p 13 (.mov 5),p 14 (.un .neg 13),p 5 (.mov 14)])) .skip)) (.seq (.seq (.reg [p 15 (.mov 5),p 16 (.bin .quo 15 (.k (.int
 .i64 65536))),w 17 (.call (.k (.fn 138 [] [])) [16])]) (.block 0 (.rangeFunc 17 [18] (.reg [p 6 (.mov 18)]) real_Print_1_l0))) (.seq (.keep [4,5]) (.seq (.reg [w 21 (.call (.k (.fn
 91 [] [])) [4,(.k (.int .u8 46))])]) (.seq (.seq (.reg [p 22 (.mov 5),p 23 (.bin .rem 22 (.k (.int .i64 65536))),p 7 (.mov 23),p 8 (.mov (.k (.bool true)))]) (.block 2 (.loop real_Print_1_l1)))
 (.seq (.keep [4]) (.seq (.reg [w 38 (.call (.k (.fn 92 [] [])) [4]),p 1 (.mov 38),p 2 (.mov (.k (.int .i64 0))),p 3 (.mov (.k (.int .i64 0)))]) .ret))))))))))⟩
def real_result_string_l0:MCode:=(.seq (.keep [0,4,10,11,12]) (.seq (.reg [p 13 (.bin .lss 12 11)]) (.seq (.cond 13 .skip (.exit 0)) (.seq (.block 1 (.seq (.reg [p 14 (.iaddrS
 1 10 12),r 15 (.load none 14),p 7 (.mov 15)]) (.seq (.reg [p 16 (.mov 7),w 17 (.call (.k (.fn 110 [] [])) [16]),p 18 (.un .not 17)]) (.cond 18 (.seq (.reg [p 19 (.mov 4),p 4 (.mov
 19),p 5 (.mov (.k (.int .i64 2)))]) .ret) .skip)))) (.seq (.keep [0,4,10,11,12]) (.reg [p 20 (.bin .add 12 (.k (.int .i64 1))),p 12 (.mov 20)]))))))
def real_result_string:MFun:=⟨2,[.t 4,.t 5],(.seq (.reg [p 4 (.mov (.k (.str []))),p 5 (.mov (.k (.int .i64 0)))]) (.seq (.seq (.reg [p 10 (.mov 1),p 11 (.lenOf false 10),
 p 12 (.mov (.k (.int .i64 0)))]) (.block 0 (.loop real_result_string_l0))) (.seq (.keep [0,4]) (.seq (.reg [p 22 (.mov 0),w 23 (.call 22 []),p 21 (.mov 23),p 24 (.extr 0 21),p
 25 (.extr 1 21),p 26 (.extr 2 21),p 8 (.mov 24),p 9 (.mov 25),p 5 (.mov 26)]) (.seq (.keep [4,5,8,9]) (.seq (.seq (.reg [p 27 (.mov 5),p 28 (.bin .eql 27 (.k (.int .i64 0))),
 p 29 (.mov 28),pg 30 29 true (.mov 9),wg 31 29 true (.call (.k (.fn 110 [] [])) [30]),pg 32 29 true (.un .not 31),p 33 (.pick 29 32 (.k (.bool false)))]) (.cond 33 (.reg [p 5 (.mov
 (.k (.int .i64 25)))]) .skip)) (.seq (.keep [4,5,8]) (.seq (.seq (.reg [p 34 (.mov 5),p 35 (.bin .neq 34 (.k (.int .i64 0)))]) (.cond 35 (.seq (.reg [p 36 (.mov 4),p 37 (.mov 5),
 p 4 (.mov 36),p 5 (.mov 37)]) .ret) .skip)) (.seq (.reg [p 38 (.mov 8),p 4 (.mov 38),p 5 (.mov (.k (.int .i64 0)))]) .ret)))))))))⟩
def real_whole:MFun:=⟨1,[.t 2],(.seq (.reg [n 1 (.box 3 false 0),p 2 (.mov (.k .nilfn))]) (.seq (.reg [p 3 (.mkfn 139 [] [1]),p 2 (.mov 3)]) .ret))⟩
def real_whole_1_l0:MCode:=(.seq (.keep [0,1,3]) (.seq (.seq (.reg [r 4 (.load none 1),p 5 (.mov 3),p 6 (.bin .quo 4 5),p 7 (.bin .geq 6 (.k (.int .i64 10)))]) (.cond 7 .skip
 (.exit 0))) (.block 1 (.reg [p 8 (.mov 3),p 9 (.bin .mul 8 (.k (.int .i64 10))),p 3 (.mov 9)]))))
def real_whole_1_l1:MCode:=(.seq (.keep [0,1,3]) (.seq (.seq (.reg [p 10 (.mov 3),p 11 (.bin .gtr 10 (.k (.int .i64 0)))]) (.cond 11 .skip (.exit 2))) (.seq (.block 3 (.seq (.reg
 [p 14 (.mov 0),r 15 (.load none 1),p 16 (.mov 3),p 17 (.bin .quo 15 16),p 18 (.bin .rem 17 (.k (.int .i64 10))),p 19 (.conv .u8 18),p 20 (.bin .add (.k (.int .u8 48)) 19),w 21
 (.call 14 [20]),p 22 (.un .not 21)]) (.cond 22 .ret .skip))) (.seq (.keep [0,1,3]) (.reg [p 12 (.mov 3),p 13 (.bin .quo 12 (.k (.int .i64 10))),p 3 (.mov 13)])))))
def real_whole_1:MFun:=⟨2,[],(.seq (.reg [p 3 (.mov (.k (.int .i64 1)))]) (.seq (.block 0 (.loop real_whole_1_l0)) (.seq (.keep [0,1,3]) (.block 2 (.loop real_whole_1_l1)))))⟩
structure H_strconv_Itoa (T:Tab):Prop where
 en:T.en 132=some E_strconv_Itoa
structure H_real_whole_1 (T:Tab):Prop where
 e:T.en 139=none
 f:T.fn 139=some real_whole_1
structure H_real_result_string (T:Tab):Prop where
 e:T.en 137=none
 f:T.fn 137=some real_result_string
 real_Is:H_real_Is T
structure H_real_whole (T:Tab):Prop where
 e:T.en 138=none
 f:T.fn 138=some real_whole
 real_whole_1:H_real_whole_1 T
structure H_real_Print_1 (T:Tab):Prop where
 e:T.en 136=none
 f:T.fn 136=some real_Print_1
 strings_Builder_WriteByte:H_strings_Builder_WriteByte T
 real_whole:H_real_whole T
 strings_Builder_String:H_strings_Builder_String T
structure H_chaseref03_Right (T:Tab):Prop where
 e:T.en 129=none
 f:T.fn 129=some chaseref03_Right
 chaseref01_Is:H_chaseref01_Is T
 chaseref03_Number:H_chaseref03_Number T
 chaseref03_All:H_chaseref03_All T
structure H_real_Print (T:Tab):Prop where
 e:T.en 133=none
 f:T.fn 133=some real_Print
 real_Print_1:H_real_Print_1 T
 real_result_string:H_real_result_string T
structure H_lex_Text (T:Tab):Prop where
 e:T.en 128=none
 f:T.fn 128=some lex_Text
 lex_Check:H_lex_Check T
 strconv_Itoa:H_strconv_Itoa T
 real_Print:H_real_Print T
 lex_Quote:H_lex_Quote T
end Go.Ev.B

/- The reference's valid tokens. -/
namespace Go.Ev
open Go
set_option linter.unusedSimpArgs false
set_option linter.unusedSectionVars false
set_option linter.unusedVariables false
variable {T : Tab} {st : St}
theorem right_not {k n:Int} {t:List UInt8} (h1:k≠1) (h2:k≠2) (hn:n≠0):rightT k n t=false:=by
 unfold rightT
 rw[if_neg h1,if_neg h2]
 split
 ·simp[markT,hn]
 ·split <;> simp[hn]
theorem refRight_tells (H:B.H_chaseref03_Right T) (hwf:st.Wf) {k n:Int} {t:List UInt8} (hs:t.length<1000000000000):Tells T st (.fn 129 [] []) [.agg [.int .i64 k,.int .i64 n,.str t]] (.bool (rightT k n t)):=by
 refine tells_of H.e H.f rfl ?_
 have hx:=Ext.new hwf (.cells 134 true [.int .i64 k,.int .i64 n,.str t])
 have g:hget ((st.nx,AObj.cells 134 true [.int .i64 k,.int .i64 n,.str t])::st.h) st.nx=some (.cells 134 true [.int .i64 k,.int .i64 n,.str t]):=by simp[hget_cons]
 by_cases h1:k=1
 ·subst h1
  by_cases ht:t=[]
  ·subst ht
   by_cases a1: -2147483648≤n
   ·simp[B.chaseref03_Right,go_sem,NO.run,WO.run,RO.run,rdCell,hget_cons,a1,rightT,seq8_eq,hx]
   ·simp[B.chaseref03_Right,go_sem,NO.run,WO.run,RO.run,rdCell,hget_cons,a1,rightT,seq8_eq,hx]
  ·have hq:t.isEmpty=false:=by cases t with | nil=>exact absurd rfl ht | cons=>rfl
   simp[B.chaseref03_Right,go_sem,NO.run,WO.run,RO.run,rdCell,hget_cons,rightT,seq8_eq,hq,ht,hx]
 by_cases h2:k=2
 ·subst h2
  by_cases ht:t=[]
  ·subst ht
   simp[B.chaseref03_Right,go_sem,NO.run,WO.run,RO.run,rdCell,hget_cons,seq8_eq]
   refine(is105_tells H.chaseref01_Is hx.wf).use fun s1 hs1=> ?_
   simp[go_sem,rightT,hx.trans hs1]
  ·have hq:t.isEmpty=false:=by cases t with | nil=>exact absurd rfl ht | cons=>rfl
   simp[B.chaseref03_Right,go_sem,NO.run,WO.run,RO.run,rdCell,hget_cons,rightT,seq8_eq,hq,ht,hx]
 by_cases hn:n=0
 rotate_left
 ·rw[right_not h1 h2 hn]
  simp[B.chaseref03_Right,go_sem,NO.run,WO.run,RO.run,rdCell,hget_cons,h1,h2,hn,hx]
 subst hn
 by_cases h3:k=3
 ·subst h3
  by_cases m0:t=[91]
  ·subst m0
   simp[B.chaseref03_Right,go_sem,NO.run,WO.run,RO.run,rdCell,hget_cons,rightT,markT,seq8_eq,hx]
  by_cases m1:t=[93]
  ·subst m1
   simp[B.chaseref03_Right,go_sem,NO.run,WO.run,RO.run,rdCell,hget_cons,rightT,markT,seq8_eq,hx]
  by_cases m2:t=[60,60]
  ·subst m2
   simp[B.chaseref03_Right,go_sem,NO.run,WO.run,RO.run,rdCell,hget_cons,rightT,markT,seq8_eq,hx]
  by_cases m3:t=[62,62]
  ·subst m3
   simp[B.chaseref03_Right,go_sem,NO.run,WO.run,RO.run,rdCell,hget_cons,rightT,markT,seq8_eq,hx]
  have hr:rightT 3 0 t=namedT 3 t:=by simp[rightT,markT,m0,m1,m2,m3]
  rw[hr]
  have q0:(t == [91])=false:=by simp[m0]
  have q1:(t == [93])=false:=by simp[m1]
  have q2:(t == [60,60])=false:=by simp[m2]
  have q3:(t == [62,62])=false:=by simp[m3]
  simp[B.chaseref03_Right,go_sem,NO.run,WO.run,RO.run,rdCell,hget_cons,seq8_eq,q0,q1,q2,q3]
  refine(refNumber_tells H.chaseref03_Number hx.wf hs).use fun s1 hs1=> ?_
  have e1:=hx.trans hs1
  have g1:=hs1.get hx.wf g
  rw[num_law]
  have hnm:namedT 3 t=(decide (t.length≤100) && regAll t && (!(t == []) && decide ((numT t).2.2=5))):=by simp[namedT]
  rw[hnm]
  generalize numT t=u
  have x3:=e1.trans (Ext.new e1.wf (.cells 134 true [.int .i64 u.1,.int .i64 u.2.1,.str []]))
  have hne:¬s1.nx=st.nx:=by have:=e1.wf.lt _ _ g1;omega
  have g2:hget ((s1.nx,AObj.cells 134 true [.int .i64 u.1,.int .i64 u.2.1,.str []])::s1.h) st.nx=some (.cells 134 true [.int .i64 3,.int .i64 0,.str t]):=by
   simp[hget_cons,Ne.symm hne,hne,g1]
  by_cases ht:t=[]
  ·subst ht
   simp[go_sem,toA,tokA,tokC,NO.run,WO.run,RO.run,wr_tok,rdCell,hget_cons,hne,g1,seq8_eq,x3]
  have hq:t.isEmpty=false:=by cases t with | nil=>exact absurd rfl ht | cons=>rfl
  by_cases hl:t.length≤100
  ·simp[go_sem,toA,tokA,tokC,NO.run,WO.run,RO.run,wr_tok,rdCell,hget_cons,hne,g1,seq8_eq,hq,show (t.length:Int)≤100 by omega]
   refine(refAll_tells H.chaseref03_All x3.wf (s:=t) (by omega)).use fun s2 hs2=> ?_
   have e2:=x3.trans hs2
   cases hra:regAll t <;> simp[go_sem,hra,hl,e2]
  ·simp[go_sem,toA,tokA,tokC,NO.run,WO.run,RO.run,wr_tok,rdCell,hget_cons,hne,g1,seq8_eq,hq,hl,show¬(t.length:Int)≤100 by omega,x3]
 have hk45:k=4∨k=5→rightT k 0 t=(decide (t.length≤100) && regAll t):=by
  rintro(rfl | rfl) <;> simp[rightT,markT,namedT]
 by_cases h4:k=4
 ·rw[hk45 (.inl h4)]
  subst h4
  by_cases hl:t.length≤100
  ·simp[B.chaseref03_Right,go_sem,NO.run,WO.run,RO.run,rdCell,hget_cons,seq8_eq,hl,show (t.length:Int)≤100 by omega]
   refine(refAll_tells H.chaseref03_All hx.wf (s:=t) (by omega)).use fun s2 hs2=> ?_
   simp[go_sem,hx.trans hs2]
  ·simp[B.chaseref03_Right,go_sem,NO.run,WO.run,RO.run,rdCell,hget_cons,seq8_eq,hl,show¬(t.length:Int)≤100 by omega,hx]
 by_cases h5:k=5
 ·rw[hk45 (.inr h5)]
  subst h5
  by_cases hl:t.length≤100
  ·simp[B.chaseref03_Right,go_sem,NO.run,WO.run,RO.run,rdCell,hget_cons,seq8_eq,hl,show (t.length:Int)≤100 by omega]
   refine(refAll_tells H.chaseref03_All hx.wf (s:=t) (by omega)).use fun s2 hs2=> ?_
   simp[go_sem,hx.trans hs2]
  ·simp[B.chaseref03_Right,go_sem,NO.run,WO.run,RO.run,rdCell,hget_cons,seq8_eq,hl,show¬(t.length:Int)≤100 by omega,hx]
 by_cases h6:k=6
 ·subst h6
  simp[B.chaseref03_Right,go_sem,NO.run,WO.run,RO.run,rdCell,hget_cons,rightT,hx]
  omega
 by_cases h7:k=7
 ·subst h7
  simp[B.chaseref03_Right,go_sem,NO.run,WO.run,RO.run,rdCell,hget_cons,rightT,seq8_eq,hx]
 by_cases h8:k=8
 ·subst h8
  simp[B.chaseref03_Right,go_sem,NO.run,WO.run,RO.run,rdCell,hget_cons,rightT,seq8_eq,hx]
 simp[B.chaseref03_Right,go_sem,NO.run,WO.run,RO.run,rdCell,hget_cons,rightT,h1,h2,h3,h4,h5,h6,h7,h8,hx]
end Go.Ev

/- The reference's decimal text of an int. -/
namespace Go.Ev
open Go
set_option linter.unusedSimpArgs false
set_option linter.unusedSectionVars false
set_option linter.unusedVariables false
variable {T : Tab} {st : St}
theorem hget_of_mem:∀{h:Heap} {n:Nat},n∈h.map (·.1)→∃o,hget h n=some o
 | [],_,hm=>by simp at hm
 | (m,o)::h,n,hm=>by
   by_cases e:m=n
   ·exact⟨o,by simp[hget,e]⟩
   ·simp only[List.map_cons,List.mem_cons]at hm
    rcases hm with h1 | h1
    ·exact absurd h1.symm e
    ·obtain⟨p,hp⟩:=hget_of_mem h1
     exact⟨p,by simp[hget,e,hp]⟩
theorem Ext.put (hwf:st.Wf) {k n:Nat} {s:St} (x:Ext ⟨st.h,st.nx+k⟩ s) (h1:st.nx≤n) (h2:n<st.nx+k) (o:AObj):Ext st ⟨(n,o)::s.h,s.nx⟩:=by
 have hno:hget s.h n=none:=by
  rw[x.keep n h2]
  cases hg:hget st.h n with
  | none=>rfl
  | some p=>have:=hwf.lt n p hg;omega
 have hnx:=x.nx
 refine⟨by simp only at hnx⊢;omega,⟨fun m p hm=> ?_,?_⟩,fun m hm=> ?_⟩
 ·simp only[hget]at hm
  split at hm
  ·rename_i e;subst e;simp only at hnx⊢;omega
  ·exact x.wf.lt m p hm
 ·simp only[List.map_cons,List.nodup_cons]
  refine⟨fun hm=> ?_,x.wf.nd⟩
  obtain⟨p,hp⟩:=hget_of_mem hm
  rw[hno]at hp;cases hp
 ·simp only[hget]
  rw[if_neg (by omega),x.keep m (by simp only;omega)]
end Go.Ev

/- Reals as decimals: what both Prints answer; the reference's Print. -/
namespace Go.Ev
open Go
set_option linter.unusedSimpArgs false
set_option linter.unusedSectionVars false
set_option linter.unusedVariables false
variable {T : Tab} {st : St}
end Go.Ev

/- The canonical texts: the reference's Text. -/
namespace Go.Ev
open Go
set_option linter.unusedSimpArgs false
set_option linter.unusedSectionVars false
set_option linter.unusedVariables false
variable {T : Tab} {st : St}
end Go.Ev

/- real.Print: the digits ahead of the point are yielded one by one. -/
namespace Go.Ev
open Go
set_option linter.unusedSimpArgs false
set_option linter.unusedSectionVars false
set_option linter.unusedVariables false
variable {T : Tab} {st : St}
end Go.Ev

/- real.Print told. -/
namespace Go.Ev
open Go
set_option linter.unusedSimpArgs false
set_option linter.unusedSectionVars false
set_option linter.unusedVariables false
variable {T : Tab} {st : St}
def pb:Nat→MCode
 | 0=>B.real_Print_1.body
 | k+1=>(pb k).b
end Go.Ev

/- lex.Text; the token of a draft. -/
namespace Go.Ev
open Go
set_option linter.unusedSimpArgs false
set_option linter.unusedSectionVars false
set_option linter.unusedVariables false
variable {T : Tab} {st : St}
def tb:Nat→MCode
 | 0=>B.chaseref03_Draft_Token.body
 | k+1=>(tb k).b
end Go.Ev

/- The token of a draft; LexTexts. -/
namespace Go.Ev
open Go
set_option linter.unusedSimpArgs false
set_option linter.unusedSectionVars false
set_option linter.unusedVariables false
variable {T : Tab} {st : St}
end Go.Ev

/- LexTexts: the law told. -/
namespace Go.Ev
open Go
set_option linter.unusedSimpArgs false
set_option linter.unusedSectionVars false
set_option linter.unusedVariables false
variable {T : Tab} {st : St}
end Go.Ev

/- Structs of two numbers and a text among the arguments; a table of the library among the objects. -/
namespace Go.Ev
open Go Go.RowKit Go.ChangeShapes Go.WideShapes Go.Deep Go.Joins
set_option linter.unusedVariables false
set_option linter.unusedSimpArgs false
def powAV:List AV:=Lib.pow10Tab.map fun z=> .int .u64 z
theorem vrs_ints {X:Cx} {N:Nu}:∀zs:List Int,VRs X N (zs.map fun z=> .int .u64 z) (zs.map fun z=>Value.int .u64 z)
 | []=>rfl
 | z::zs=>⟨_,_,rfl,rfl,vrs_ints zs⟩
theorem pow_of_laid {P:Program} {W:World} {x y:String×DataW Unit} {name:String} {d:DataW Unit} {g:Nat} {t e:TypeId} {n:Nat} (hp:laidMetH P [x,y,(name,d)] W→laidMet P [x,y,(name,d)] W)
  (hd:d=Lib.tabData .u64 Lib.pow10Tab) (hg:P.globalNamed name=some g) (hty:(P.globals[g]?).map (·.type)=some t) (ht:P.underlying t=some (.array n e)) (he:P.underlying e=some (.int .u64)) (hce:P.cellsOf e=1) (hct:P.cellsOf t=n)
  (h:laidMetH P [x,y,(name,d)] W):Lib.TabIs P W name .u64 Lib.pow10Tab:=by
 subst hd
 exact Lib.tabIs_of_head hg hty ht he hce hct (laidMet.tail (laidMet.tail (hp h)))
end Go.Ev

/- strings.Join as an entry of the table. -/
namespace Go.Ev
open Go Go.RowKit
set_option linter.unusedVariables false
variable {X : Cx} {D : ChkD} {T : Tab} {st : St}
namespace B
def strsOf:List AV→Option (List (List UInt8))
 | []=>some []
 | .str s::r=>(match strsOf r with | some l=>some (s::l) | none=>none)
 | _=>none
def E_strings_Join:Entry:=fun args st=>match args with
 | [.nilslice,.str sep]=>some (.str [],st)
 | [.slice n o len cp,.str sep]=>
   match rdCells st.h n o len with
   | some cs=>
     match strsOf cs with
     | some xs=>if 1≤len∧len≤140737488355328∧(Lib.join xs sep).length≤140737488355328 then some (.str (Lib.join xs sep),st)else none
     | none=>none
   | none=>none
 | _=>none
end B
theorem vrs_strs {N:Nu}:∀{cs:List AV} {xs:List (List UInt8)} {us:List Value},B.strsOf cs=some xs→VRs X N cs us→us=xs.map fun x=>Value.string ⟨x.toArray⟩
 | [],xs,us,h,hv=>by simp only[B.strsOf,Option.some.injEq]at h;subst h;exact hv
 | c::cs,xs,us,h,hv=>by
   cases c <;> simp only[B.strsOf]at h <;> try (cases h;done)
   split at h
   ·rename_i l hl
    cases h
    obtain⟨u,us,rfl,h0,h1⟩:=hv
    cases h0
    rw[vrs_strs hl h1];rfl
   ·cases h
theorem join_entry {f:Nat} (hb:bodyB X.P (X.φ f)=true)
  (h0:∀(sep:ByteArray) (w:World),Calls X.P (X.φ f) #[.slice none 0 0,.string sep] w fun e w'=>e= .returned (.string ⟨#[]⟩)∧w'=w)
  (h:∀(bk o c:Nat) (xs:List ByteArray) (sep:ByteArray) (w:World),(∀(j:Nat) x,xs[j]? =some x→w.cell? ⟨bk,o+j,none⟩=some (.string x))→bk<w.heap.size→xs.length≤140737488355328→xs.length≤c→
    (Lib.join (xs.map (·.data.toList)) sep.data.toList).length≤140737488355328→Calls X.P (X.φ f) #[.slice (some ⟨bk,o,none⟩) xs.length c,.string sep] w fun e w'=>e= .returned (.string ⟨(Lib.join (xs.map (·.data.toList)) sep.data.toList).toArray⟩)∧Below w.heap.size w w'):EntryOK D X f B.E_strings_Join:=by
 refine entry_of_calls2 hb fun args st v st' hF=> ?_
 unfold B.E_strings_Join at hF
 split at hF
 ·cases hF
  refine⟨rfl,fun N us w hr hus=> ?_⟩
  obtain⟨u0,us0,rfl,h00,u1,us1,rfl,h1,rfl⟩:=hus
  cases h00
  cases h1
  exact⟨_,rfl,(h0 _ w).mono fun e w' ⟨a,b⟩=>⟨by simpa using a,by subst b;exact Below.refl _ _⟩⟩
 ·rename_i n o len cp sep
  split at hF
  case h_2=>cases hF
  rename_i cs hcs
  split at hF
  case h_2=>cases hF
  rename_i xs hxs
  split at hF
  case isFalse=>cases hF
  rename_i hc
  cases hF
  refine⟨rfl,fun N us w hr hus=> ?_⟩
  obtain⟨u0,us0,rfl,h00,u1,us1,rfl,h1,rfl⟩:=hus
  cases h1
  obtain⟨a,cpv,ha,rfl,hle,_⟩:=h00
  obtain⟨a',us,ha',hv,hl,hcell⟩:=rdCells_sound hr hcs
  rw[ha]at ha'
  cases ha'
  have e:=vrs_strs hxs hv
  subst e
  have hlen:xs.length=len:=by simpa using hl
  have hget:∀(j:Nat) (x:ByteArray),(xs.map fun x=>(⟨x.toArray⟩:ByteArray))[j]? =some x→w.cell? ⟨a.block,a.off+o+j,none⟩=some (.string x):=by
   intro j x hj
   rw[List.getElem?_map]at hj
   cases hx:xs[j]? with
   | none=>rw[hx]at hj;cases hj
   | some y=>
     rw[hx]at hj
     cases hj
     have:=hcell j (.string ⟨y.toArray⟩) (by rw[List.getElem?_map,hx];rfl)
     rw[Nat.add_assoc]
     exact this
  have hbk:a.block<w.heap.size:=by
   have hx0:∃y,xs[0]? =some y:=⟨_,List.getElem?_eq_getElem (by omega)⟩
   obtain⟨y,hy⟩:=hx0
   have:=hcell 0 (.string ⟨y.toArray⟩) (by rw[List.getElem?_map,hy];rfl)
   unfold World.cell? at this
   cases hh:w.heap[a.block]? with
   | none=>simp[hh]at this
   | some ob=>exact(Array.getElem?_eq_some_iff.1 hh).1
  have hmm:(xs.map fun x=>(⟨x.toArray⟩:ByteArray)).map (·.data.toList)=xs:=by simp[Function.comp_def]
  have hcall:=h a.block (a.off+o) cpv (xs.map fun x=>(⟨x.toArray⟩:ByteArray)) ⟨sep.toArray⟩ w hget hbk (by simp;omega) (by simp;omega) (by rw[hmm];simpa using hc.2.2)
  rw[hmm]at hcall
  rw[List.length_map,hlen]at hcall
  exact⟨_,rfl,hcall.mono fun e w' ⟨a,b⟩=>⟨by simpa using a,b⟩⟩
 ·cases hF
end Go.Ev
