/- LogicOrders told. Printed by gwo.py. -/
import Derived.Test.YtdlhjfmakdbmkaaGreatDoorP09
import Derived.Test.YtdlhjfmakdbmkaaGreatDoorP08
import Derived.Test.YtdlhjfmakdbmkaaGreatDoorP05
import Derived.Lib.SmallJoins
import Derived.Test.YtdlhjfmakdbmkaaGreatDoorP06
import Derived.Test.YtdlhjfmakdbmkaaGreatDoorProg
import Derived.Shelf.Strings.Builder1
import Derived.Shelf.Strings.Builder2
import Derived.Shelf.Strings.OnBuilder
import Derived.Shelf.Small.Utf8
import Derived.Shelf.Small.Strs
import Derived.Shelf.Small.Wraps
import Derived.Shelf.Strings.BuilderF
import Derived.Shelf.Strings.BuilderK
import Derived.Shelf.Strings.Builder2Cap
import Derived.Shelf.Strconv.Itoa0
import Derived.Shelf.Strconv.Itoa1
import Derived.Shelf.LaysM
import Derived.Shelf.Strconv.Itoa2
import Derived.Shelf.Strconv.Itoa3
import Derived.Shelf.Strings.Search1
import Derived.Shelf.Strings.Search2
import Derived.Shelf.Strings.Cut
import Derived.Shelf.Strings.Shaped
import Derived.Shelf.Strings.Prefix
import Derived.Shelf.Unicode.Latin
import Derived.Shelf.Unicode.Decode
import Derived.Shelf.Strings.Runes
import Derived.Shelf.Strings.IndexAny
import Derived.Shelf.Strings.AsciiSet
import Derived.Shelf.Strings.IndexAnyAll
import Derived.Shelf.Unicode.DecodeSlow
import Derived.Shelf.Unicode.DecodeAny
import Derived.Shelf.Unicode.CaseLookup
import Derived.Shelf.Unicode.CaseConvert
import Derived.Shelf.Unicode.CaseTo
import Derived.Shelf.Unicode.CaseLaid
import Derived.Shelf.Strings.BuilderCap
import Derived.Shelf.Slices.Turned
import Derived.Shelf.Slices.Equal
import Derived.Shelf.Slices.Empties2
set_option linter.unusedSimpArgs false
set_option linter.unusedVariables false
set_option linter.unusedSectionVars false
namespace Go.Ev
open Go
variable {T : Tab} {st st' : St}
def opLt:List UInt8:=[108,116]
def opGt:List UInt8:=[103,116]
def opLe:List UInt8:=[108,101]
def opGe:List UInt8:=[103,101]
def Zrk (x:Ob):Bool:=decide (x.k=3) || decide (x.k=4)
theorem Zb7 (H:B.Up T) (hwf:st.Wf) (x:Ob):Z9 T st (.fn 311 [] []) [x.v] (.bool (Zrk x)):=by
 refine Zm H.e H.f rfl ?_
 have x0:=(Ext.refl hwf).Zf (o:= .cells 451 true x.A) (Nat.lt_succ_self st.nx)
 unfold Zrk
 by_cases h3:x.k=3
 ·simp (disch:=omega) [B.Q7,go_sem,h3]
  simpa [Ob.A,h3] using x0
 ·simp (disch:=omega) [B.Q7,go_sem,h3]
  simpa [Ob.A] using x0
def Zxe (hp:List Ce) (x y:Ob):Prop:=∃(E ok:Bool) (L G A C:Ob),Ie hp [x,y] opEq=(Qp E,true)∧Ie hp [x,y] opNe=(Qp (!E),true)∧Ie hp [x,y] opLt=(L,ok)∧Ie hp [x,y] opGt=(G,ok)∧Ie hp [x,y] opLe=(A,ok)∧Ie hp [x,y] opGe=(C,ok)∧Dk x y=ok∧(0≤L.n∧L.n≤1)∧(0≤G.n∧G.n≤1)∧(ok=true→L.n+(Qp E).n+G.n=1∧A.n=L.n+(Qp E).n∧C.n=G.n+(Qp E).n)
set_option maxHeartbeats 8000000 in
theorem Zpd (H:B.Wu T) (hwf:st.Wf) (h9:9≤st.nx) (hpw:Pow st) (hbr:Bru st) (hwd:Wrd st) {vc vo vd:AV} {ws:List Wd} (hd:InW st.h vc ws) (so:vo.sc=true) (sd:vd.sc=true) {w0 w1:Wd} (k0:w0.ok) (k1:w1.ok)
  (law:Zxe (Bi ws) (G8 (Bi ws) w0) (G8 (Bi ws) w1)):
  Qt (call T (.fn 295 [] []) [.agg [vc,vo,vd],.agg (w0.c++w1.c)] st) fun v s=>v= .bool true∧Ext st s:=by
 refine Zw H.e H.f rfl ?_
 have sv:=hd.sc
 have x0:=(Ext.refl hwf).Zf (o:= .cells 430 true [vc,vo,vd]) (Nat.lt_succ_self st.nx)
 have x1:=x0.Zf (o:= .cells 475 true (w0.c++w1.c)) (Nat.lt_succ_self (st.nx+1))
 have hlen:(w0.c++w1.c).length=10:=rfl
 simp (disch:=omega) [B.Yh,go_sem]
 refine(Zmi H.Ui x1.wf (hpw.ext x1 hwf) (hbr.ext x1 hwf)).use fun s1 y1=> ?_
 have z1:=x1.trans y1
 have q1:=y1.Zd
 have n1:=y1.nx
 simp only at q1 n1
 simp (disch:=omega) [go_sem,q1]
 refine(Zlj H.Ks z1.wf (by omega) (hwd.ext z1 hwf) (hd.ext z1 hwf) so sd).mono ?_
 rintro vh s2 ⟨y2,hh⟩
 have z2:=z1.trans y2
 have q2:=y2.Zd
 have n2:=y2.nx
 have hW:=Zqx ws
 have hL:∀c∈Bi ws,ceL c≤45:=Zod _ _ Zqp
 obtain⟨hp,hhp⟩:∃hp,Bi ws=hp:=⟨_,rfl⟩
 rw[hhp]at hh hW hL law
 have hl:hp.length≤20:=hW.1
 have hS:HpS hp:=⟨by omega,fun c hc=>by have:=hL c hc;unfold ceL at this;omega⟩
 simp (disch:=omega) [go_sem,q1,q2,hh.sc,Wd.c]
 obtain⟨M,hM⟩:∃M,s2.nx+13=M:=⟨_,rfl⟩
 rw[hM]
 have i0:=InS.start z2.wf (M:=M) (by omega)
 refine(Eb H.Zr i0.1.wf (hwd.ext (z2.trans i0.1) hwf) (hh.ext i0.1 z2.wf) (by omega) (fun c hc=>by have:=hL c hc;omega) k0).use fun p1 e1=> ?_
 have i1:=i0.call e1
 have r1:=i1.look
 simp (disch:=omega) [go_sem,reI,wanted,q1,q2,r1,hh.sc,Wd.c]
 refine(Eb H.Zr i1.1.wf (hwd.ext (z2.trans i1.1) hwf) (hh.ext i1.1 z2.wf) (by omega) (fun c hc=>by have:=hL c hc;omega) k1).use fun p2 e2=> ?_
 have i2:=i1.call e2
 have r2:=i2.look
 obtain⟨x,hx⟩:∃x,G8 hp w0=x:=⟨_,rfl⟩
 obtain⟨y,hy⟩:∃y,G8 hp w1=y:=⟨_,rfl⟩
 rw[hx,hy]at law⊢
 obtain⟨E,ok,L,G,A,C,t1,t2,t3,t4,t5,t6,tb,tL,tG,tt⟩:=law
 have dd0:¬s2.nx+1=s2.nx:=by omega
 simp (disch:=omega) [go_sem,reI,wanted,hh.sc,B.zOb,dd0]
 have i3:=i2.new s2.nx (.cells 451 true x.A) (by omega) (Nat.le_refl _) (by omega)
 have i4:=i3.new (s2.nx+1) (.cells 451 true y.A) (by omega) (Nat.le_refl _) (by omega)
 have nn:=i4.2.1
 simp only at nn
 have y0:=z2.trans i4.1
 have hh4:=hh.ext i4.1 z2.wf
 have Z0:=i4.1
 have qa:¬p2.nx=s2.nx:=by omega
 have qb:¬p2.nx=s2.nx+1:=by omega
 have bE:(Qp E).k=2:=by cases E <;> rfl
 have bN:(Qp (!E)).k=2:=by cases E <;> rfl
 have bS:IntKind.i64.wrap ((Qp E).n+(Qp (!E)).n)=1:=by cases E <;> rfl
 have z3:=Z0.Zf (o:= .cells 451 false (Ku [x,y])) (Nat.lt_succ_self _)
 have u1:=R0 H.Kb z3.wf (vl:= .slice (p2.nx) 0 2 (.known 2)) (ops:=[x,y]) (RdO.made (m:=p2.nx) (ty:=451) (l:=[x,y]) (by simp[Zg]) rfl) (hh.ext z3 z2.wf) (by simp) hS (hpw.ext (z2.trans z3) hwf) (hbr.ext (z2.trans z3) hwf) opEq
 rw[t1]at u1
 refine u1.use fun a1 c1=> ?_
 have k1':=c1.Zd
 have m1:=c1.nx
 simp only at k1' m1
 have Z1:=(z3.trans c1).Zf (o:= .cells 451 true (Qp E).A) (Nat.lt_succ_self _)
 have d1_0:¬a1.nx=s2.nx:=by omega
 have d1_0':¬a1.nx+1=s2.nx:=by omega
 have d1_1:¬a1.nx=s2.nx+1:=by omega
 have d1_1':¬a1.nx+1=s2.nx+1:=by omega
 simp (disch:=omega) [go_sem,B.zOb,dd0,qa,qb,k1',d1_0,d1_0',d1_1,d1_1']
 have z4:=Z1.Zf (o:= .cells 451 false (Ku [x,y])) (Nat.lt_succ_self _)
 have u2:=R0 H.Kb z4.wf (vl:= .slice (a1.nx+1) 0 2 (.known 2)) (ops:=[x,y]) (RdO.made (m:=a1.nx+1) (ty:=451) (l:=[x,y]) (by simp[Zg]) rfl) (hh.ext z4 z2.wf) (by simp) hS (hpw.ext (z2.trans z4) hwf) (hbr.ext (z2.trans z4) hwf) opNe
 rw[t2]at u2
 refine u2.use fun a2 c2=> ?_
 have k2':=c2.Zd
 have m2:=c2.nx
 simp only at k2' m2
 have Z2:=(z4.trans c2).Zf (o:= .cells 451 true (Qp (!E)).A) (Nat.lt_succ_self _)
 have d2_0:¬a2.nx=s2.nx:=by omega
 have d2_0':¬a2.nx+1=s2.nx:=by omega
 have d2_1:¬a2.nx=s2.nx+1:=by omega
 have d2_1':¬a2.nx+1=s2.nx+1:=by omega
 have d2_2:¬a2.nx=a1.nx:=by omega
 have d2_2':¬a2.nx+1=a1.nx:=by omega
 simp (disch:=omega) [go_sem,B.zOb,dd0,qa,qb,k1',d1_0,d1_0',d1_1,d1_1',k2',d2_0,d2_0',d2_1,d2_1',d2_2,d2_2',bE,bN,bS]
 have z5:=Z2.Zf (o:= .cells 451 false (Ku [x,y])) (Nat.lt_succ_self _)
 have u3:=R0 H.Kb z5.wf (vl:= .slice (a2.nx+1) 0 2 (.known 2)) (ops:=[x,y]) (RdO.made (m:=a2.nx+1) (ty:=451) (l:=[x,y]) (by simp[Zg]) rfl) (hh.ext z5 z2.wf) (by simp) hS (hpw.ext (z2.trans z5) hwf) (hbr.ext (z2.trans z5) hwf) opLt
 rw[t3]at u3
 refine u3.use fun a3 c3=> ?_
 have k3':=c3.Zd
 have m3:=c3.nx
 simp only at k3' m3
 have Z3:=(z5.trans c3).Zf (o:= .cells 451 true L.A) (Nat.lt_succ_self _)
 have d3_0:¬a3.nx=s2.nx:=by omega
 have d3_0':¬a3.nx+1=s2.nx:=by omega
 have d3_1:¬a3.nx=s2.nx+1:=by omega
 have d3_1':¬a3.nx+1=s2.nx+1:=by omega
 have d3_2:¬a3.nx=a1.nx:=by omega
 have d3_2':¬a3.nx+1=a1.nx:=by omega
 have d3_3:¬a3.nx=a2.nx:=by omega
 have d3_3':¬a3.nx+1=a2.nx:=by omega
 simp (disch:=omega) [go_sem,B.zOb,dd0,qa,qb,k1',d1_0,d1_0',d1_1,d1_1',k2',d2_0,d2_0',d2_1,d2_1',d2_2,d2_2',k3',d3_0,d3_0',d3_1,d3_1',d3_2,d3_2',d3_3,d3_3']
 have z6:=Z3.Zf (o:= .cells 451 false (Ku [x,y])) (Nat.lt_succ_self _)
 have u4:=R0 H.Kb z6.wf (vl:= .slice (a3.nx+1) 0 2 (.known 2)) (ops:=[x,y]) (RdO.made (m:=a3.nx+1) (ty:=451) (l:=[x,y]) (by simp[Zg]) rfl) (hh.ext z6 z2.wf) (by simp) hS (hpw.ext (z2.trans z6) hwf) (hbr.ext (z2.trans z6) hwf) opGt
 rw[t4]at u4
 refine u4.use fun a4 c4=> ?_
 have k4':=c4.Zd
 have m4:=c4.nx
 simp only at k4' m4
 have Z4:=(z6.trans c4).Zf (o:= .cells 451 true G.A) (Nat.lt_succ_self _)
 have d4_0:¬a4.nx=s2.nx:=by omega
 have d4_0':¬a4.nx+1=s2.nx:=by omega
 have d4_1:¬a4.nx=s2.nx+1:=by omega
 have d4_1':¬a4.nx+1=s2.nx+1:=by omega
 have d4_2:¬a4.nx=a1.nx:=by omega
 have d4_2':¬a4.nx+1=a1.nx:=by omega
 have d4_3:¬a4.nx=a2.nx:=by omega
 have d4_3':¬a4.nx+1=a2.nx:=by omega
 have d4_4:¬a4.nx=a3.nx:=by omega
 have d4_4':¬a4.nx+1=a3.nx:=by omega
 simp (disch:=omega) [go_sem,B.zOb,dd0,qa,qb,k1',d1_0,d1_0',d1_1,d1_1',k2',d2_0,d2_0',d2_1,d2_1',d2_2,d2_2',k3',d3_0,d3_0',d3_1,d3_1',d3_2,d3_2',d3_3,d3_3',k4',d4_0,d4_0',d4_1,d4_1',d4_2,d4_2',d4_3,d4_3',d4_4,d4_4']
 have z7:=Z4.Zf (o:= .cells 451 false (Ku [x,y])) (Nat.lt_succ_self _)
 have u5:=R0 H.Kb z7.wf (vl:= .slice (a4.nx+1) 0 2 (.known 2)) (ops:=[x,y]) (RdO.made (m:=a4.nx+1) (ty:=451) (l:=[x,y]) (by simp[Zg]) rfl) (hh.ext z7 z2.wf) (by simp) hS (hpw.ext (z2.trans z7) hwf) (hbr.ext (z2.trans z7) hwf) opLe
 rw[t5]at u5
 refine u5.use fun a5 c5=> ?_
 have k5':=c5.Zd
 have m5:=c5.nx
 simp only at k5' m5
 have Z5:=(z7.trans c5).Zf (o:= .cells 451 true A.A) (Nat.lt_succ_self _)
 have d5_0:¬a5.nx=s2.nx:=by omega
 have d5_0':¬a5.nx+1=s2.nx:=by omega
 have d5_1:¬a5.nx=s2.nx+1:=by omega
 have d5_1':¬a5.nx+1=s2.nx+1:=by omega
 have d5_2:¬a5.nx=a1.nx:=by omega
 have d5_2':¬a5.nx+1=a1.nx:=by omega
 have d5_3:¬a5.nx=a2.nx:=by omega
 have d5_3':¬a5.nx+1=a2.nx:=by omega
 have d5_4:¬a5.nx=a3.nx:=by omega
 have d5_4':¬a5.nx+1=a3.nx:=by omega
 have d5_5:¬a5.nx=a4.nx:=by omega
 have d5_5':¬a5.nx+1=a4.nx:=by omega
 simp (disch:=omega) [go_sem,B.zOb,dd0,qa,qb,k1',d1_0,d1_0',d1_1,d1_1',k2',d2_0,d2_0',d2_1,d2_1',d2_2,d2_2',k3',d3_0,d3_0',d3_1,d3_1',d3_2,d3_2',d3_3,d3_3',k4',d4_0,d4_0',d4_1,d4_1',d4_2,d4_2',d4_3,d4_3',d4_4,d4_4',k5',d5_0,d5_0',d5_1,d5_1',d5_2,d5_2',d5_3,d5_3',d5_4,d5_4',d5_5,d5_5']
 have z8:=Z5.Zf (o:= .cells 451 false (Ku [x,y])) (Nat.lt_succ_self _)
 have u6:=R0 H.Kb z8.wf (vl:= .slice (a5.nx+1) 0 2 (.known 2)) (ops:=[x,y]) (RdO.made (m:=a5.nx+1) (ty:=451) (l:=[x,y]) (by simp[Zg]) rfl) (hh.ext z8 z2.wf) (by simp) hS (hpw.ext (z2.trans z8) hwf) (hbr.ext (z2.trans z8) hwf) opGe
 rw[t6]at u6
 refine u6.use fun a6 c6=> ?_
 have k6':=c6.Zd
 have m6:=c6.nx
 simp only at k6' m6
 have Z6:=(z8.trans c6).Zf (o:= .cells 451 true C.A) (Nat.lt_succ_self _)
 have d6_0:¬a6.nx=s2.nx:=by omega
 have d6_0':¬a6.nx+1=s2.nx:=by omega
 have d6_1:¬a6.nx=s2.nx+1:=by omega
 have d6_1':¬a6.nx+1=s2.nx+1:=by omega
 have d6_2:¬a6.nx=a1.nx:=by omega
 have d6_2':¬a6.nx+1=a1.nx:=by omega
 have d6_3:¬a6.nx=a2.nx:=by omega
 have d6_3':¬a6.nx+1=a2.nx:=by omega
 have d6_4:¬a6.nx=a3.nx:=by omega
 have d6_4':¬a6.nx+1=a3.nx:=by omega
 have d6_5:¬a6.nx=a4.nx:=by omega
 have d6_5':¬a6.nx+1=a4.nx:=by omega
 have d6_6:¬a6.nx=a5.nx:=by omega
 have d6_6':¬a6.nx+1=a5.nx:=by omega
 simp (disch:=omega) [go_sem,B.zOb,dd0,qa,qb,k1',d1_0,d1_0',d1_1,d1_1',k2',d2_0,d2_0',d2_1,d2_1',d2_2,d2_2',k3',d3_0,d3_0',d3_1,d3_1',d3_2,d3_2',d3_3,d3_3',k4',d4_0,d4_0',d4_1,d4_1',d4_2,d4_2',d4_3,d4_3',d4_4,d4_4',k5',d5_0,d5_0',d5_1,d5_1',d5_2,d5_2',d5_3,d5_3',d5_4,d5_4',d5_5,d5_5',k6',d6_0,d6_0',d6_1,d6_1',d6_2,d6_2',d6_3,d6_3',d6_4,d6_4',d6_5,d6_5',d6_6,d6_6']
 have bx:Dk x y=((Zrk x && Zrk y) || (decide (x.k=6) && decide (y.k=6))):=rfl
 rw[bx]at tb
 have nq6:∀z:Ob,Zrk z=true→¬z.k=6:=fun z h e=>by simp[Zrk,e]at h
 have ue:=Zb7 H.Q7 Z6.wf x
 refine ue.use fun b1 f1=> ?_
 have Y1:=Z6.trans f1
 have kb1:=f1.Zd
 have nb1:=f1.nx
 simp only at kb1 nb1
 have us:=(Zb7 H.Q7 Y1.wf y)
 have hnE:0≤(Qp E).n∧(Qp E).n≤1:=by cases E <;> decide
 have wT:ok=true→IntKind.i64.wrap (L.n+(Qp E).n)=A.n∧IntKind.i64.wrap (A.n+G.n)=1∧IntKind.i64.wrap (G.n+(Qp E).n)=C.n:=fun h=>by
  obtain⟨e1,e2,e3⟩:=tt h
  refine⟨by rw[Zo (by omega) (by omega)];omega,by rw[Zo (by omega) (by omega)];omega,by rw[Zo (by omega) (by omega)];omega⟩
 cases hx:Zrk x with
 | true=>
   have hx6:=nq6 x hx
   simp (disch:=omega) [go_sem,B.zOb,dd0,qa,qb,k1',d1_0,d1_0',d1_1,d1_1',k2',d2_0,d2_0',d2_1,d2_1',d2_2,d2_2',k3',d3_0,d3_0',d3_1,d3_1',d3_2,d3_2',d3_3,d3_3',k4',d4_0,d4_0',d4_1,d4_1',d4_2,d4_2',d4_3,d4_3',d4_4,d4_4',k5',d5_0,d5_0',d5_1,d5_1',d5_2,d5_2',d5_3,d5_3',d5_4,d5_4',d5_5,d5_5',k6',d6_0,d6_0',d6_1,d6_1',d6_2,d6_2',d6_3,d6_3',d6_4,d6_4',d6_5,d6_5',d6_6,d6_6',kb1,hx,hx6]
   refine us.use fun b2 f2=> ?_
   have Y2:=Y1.trans f2
   have kb2:=f2.Zd
   have nb2:=f2.nx
   cases hy:Zrk y with
   | true=>
     obtain rfl:true=ok:=by rw[←tb,hx,hy];rfl
     obtain⟨wA,wB,wC⟩:=wT rfl
     simp (disch:=omega) [go_sem,B.zOb,dd0,qa,qb,k1',d1_0,d1_0',d1_1,d1_1',k2',d2_0,d2_0',d2_1,d2_1',d2_2,d2_2',k3',d3_0,d3_0',d3_1,d3_1',d3_2,d3_2',d3_3,d3_3',k4',d4_0,d4_0',d4_1,d4_1',d4_2,d4_2',d4_3,d4_3',d4_4,d4_4',k5',d5_0,d5_0',d5_1,d5_1',d5_2,d5_2',d5_3,d5_3',d5_4,d5_4',d5_5,d5_5',k6',d6_0,d6_0',d6_1,d6_1',d6_2,d6_2',d6_3,d6_3',d6_4,d6_4',d6_5,d6_5',d6_6,d6_6',kb1,kb2,hx,hx6,hy,wA,wB,wC]
     exact(z2.trans Y2).Zb
   | false=>
     obtain rfl:false=ok:=by rw[←tb,hx,hy];simp[hx6]
     simp (disch:=omega) [go_sem,B.zOb,dd0,qa,qb,k1',d1_0,d1_0',d1_1,d1_1',k2',d2_0,d2_0',d2_1,d2_1',d2_2,d2_2',k3',d3_0,d3_0',d3_1,d3_1',d3_2,d3_2',d3_3,d3_3',k4',d4_0,d4_0',d4_1,d4_1',d4_2,d4_2',d4_3,d4_3',d4_4,d4_4',k5',d5_0,d5_0',d5_1,d5_1',d5_2,d5_2',d5_3,d5_3',d5_4,d5_4',d5_5,d5_5',k6',d6_0,d6_0',d6_1,d6_1',d6_2,d6_2',d6_3,d6_3',d6_4,d6_4',d6_5,d6_5',d6_6,d6_6',kb1,kb2,hx,hx6,hy]
     exact(z2.trans Y2).Zb
 | false=>
   by_cases hx6:x.k=6
   ·by_cases hy6:y.k=6
    ·obtain rfl:true=ok:=by rw[←tb];simp[hx6,hy6]
     obtain⟨wA,wB,wC⟩:=wT rfl
     simp (disch:=omega) [go_sem,B.zOb,dd0,qa,qb,k1',d1_0,d1_0',d1_1,d1_1',k2',d2_0,d2_0',d2_1,d2_1',d2_2,d2_2',k3',d3_0,d3_0',d3_1,d3_1',d3_2,d3_2',d3_3,d3_3',k4',d4_0,d4_0',d4_1,d4_1',d4_2,d4_2',d4_3,d4_3',d4_4,d4_4',k5',d5_0,d5_0',d5_1,d5_1',d5_2,d5_2',d5_3,d5_3',d5_4,d5_4',d5_5,d5_5',k6',d6_0,d6_0',d6_1,d6_1',d6_2,d6_2',d6_3,d6_3',d6_4,d6_4',d6_5,d6_5',d6_6,d6_6',kb1,hx,hx6,hy6,wA,wB,wC]
     exact(z2.trans Y1).Zb
    ·obtain rfl:false=ok:=by rw[←tb,hx];simp[hx6,hy6]
     simp (disch:=omega) [go_sem,B.zOb,dd0,qa,qb,k1',d1_0,d1_0',d1_1,d1_1',k2',d2_0,d2_0',d2_1,d2_1',d2_2,d2_2',k3',d3_0,d3_0',d3_1,d3_1',d3_2,d3_2',d3_3,d3_3',k4',d4_0,d4_0',d4_1,d4_1',d4_2,d4_2',d4_3,d4_3',d4_4,d4_4',k5',d5_0,d5_0',d5_1,d5_1',d5_2,d5_2',d5_3,d5_3',d5_4,d5_4',d5_5,d5_5',k6',d6_0,d6_0',d6_1,d6_1',d6_2,d6_2',d6_3,d6_3',d6_4,d6_4',d6_5,d6_5',d6_6,d6_6',kb1,hx,hx6,hy6]
     exact(z2.trans Y1).Zb
   ·obtain rfl:false=ok:=by rw[←tb,hx];simp[hx6]
    simp (disch:=omega) [go_sem,B.zOb,dd0,qa,qb,k1',d1_0,d1_0',d1_1,d1_1',k2',d2_0,d2_0',d2_1,d2_1',d2_2,d2_2',k3',d3_0,d3_0',d3_1,d3_1',d3_2,d3_2',d3_3,d3_3',k4',d4_0,d4_0',d4_1,d4_1',d4_2,d4_2',d4_3,d4_3',d4_4,d4_4',k5',d5_0,d5_0',d5_1,d5_1',d5_2,d5_2',d5_3,d5_3',d5_4,d5_4',d5_5,d5_5',k6',d6_0,d6_0',d6_1,d6_1',d6_2,d6_2',d6_3,d6_3',d6_4,d6_4',d6_5,d6_5',d6_6,d6_6',kb1,hx,hx6]
    exact(z2.trans Y1).Zb
end Go.Ev

/- LogicOrders told: what the comparisons answer, and the whole. -/
namespace Go.Ev
open Go
variable {T : Tab} {st st' : St}
theorem Zaee {hp:List Ce} (hH:HpW hp) {w0 w1:Wd} (k0:w0.ok) (k1:w1.ok):Zxe hp (G8 hp w0) (G8 hp w1):=by
 have f0:=Zmy hH k0
 have f1:=Zmy hH k1
 obtain⟨x,hx⟩:∃x,G8 hp w0=x:=⟨_,rfl⟩
 obtain⟨y,hy⟩:∃y,G8 hp w1=y:=⟨_,rfl⟩
 rw[hx]at f0⊢
 rw[hy]at f1⊢
 have t1:=Zagr hp x y
 have t2:=Zag1 hp x y
 cases hb:Dk x y with
 | true=>
   have hk:(x.k=3∨x.k=4∨x.k=6)∧(y.k=3∨y.k=4∨y.k=6):=by
    simp only[Dk,Bool.or_eq_true,Bool.and_eq_true,decide_eq_true_eq]at hb
    omega
   rw[Zvs (f0 hk.1) (f1 hk.2) hb]at t1 t2
   refine⟨_,true,_,_,_,_,t1,t2,Zih (Zacp hp x y) hb,Zih (Zacj hp x y) hb,Zih (Zacn hp x y) hb,Zih (Zaci hp x y) hb,hb,?_,?_,fun _=>Zaeb _⟩
   ·cases decide (Zno hp x y<0) <;> decide
   ·cases decide (0<Zno hp x y) <;> decide
 | false=>
   exact⟨_,false,_,_,_,_,t1,t2,Znp (Zacp hp x y) hb,Znp (Zacj hp x y) hb,Znp (Zacn hp x y) hb,Znp (Zaci hp x y) hb,hb,by decide,by decide,fun h=>by cases h⟩
theorem Ztv (H:B.Wu T) (hwf:st.Wf) (h9:9≤st.nx) (hpw:Pow st) (hbr:Bru st) (hwd:Wrd st) {vc vo vd:AV} {ws w2:List Wd} {k:Nat} {cs:List AV} (hd:InW st.h vc ws) (ho:InW st.h vo w2) (hs:Rd st.h vd 1 k cs) {w0 w1:Wd} (k0:w0.ok) (k1:w1.ok):
  Qt (call T (.fn 295 [] []) [.agg [vc,vo,vd],.agg (w0.c++w1.c)] st) fun v s=>v= .bool true∧Ext st s:=
 Zpd H hwf h9 hpw hbr hwd hd ho.sc (by rcases hs with ⟨h1,_⟩ | ⟨n,off,cp,h1,_⟩ <;> rw[h1] <;> rfl) k0 k1 (Zaee (Zqx ws) k0 k1)
end Go.Ev

/- A table of the library beside what the arguments named. -/
namespace Go.Ev
open Go Go.RowKit Go.ChangeShapes Go.WideShapes Go.Deep Go.Joins
theorem Zk1 {X:Cx} {w:World} {N:Nu} {st:St} {o:Qb} {a:Addr} (h:SR Lt X N st w) (how:∀b,¬Own N st.h b) (ho:o.own=false) (hobj:Bt Lt X (N.add st.nx a 0) w st.nx o):
  SR Lt X (N.add st.nx a 0) ⟨(st.nx,o)::st.h,st.nx+1⟩ w∧(∀b,¬Own (N.add st.nx a 0) ((st.nx,o)::st.h) b)∧N.Le (N.add st.nx a 0):=by
 have hle:N.Le (N.add st.nx a 0):=Nu.Zcx (h.fresh _ (Nat.le_refl _))
 have hold:∀m,m≠st.nx→(N.add st.nx a 0).ρ m=N.ρ m:=fun m hm=>by simp[Nu.add,hm]
 have hown:∀b,¬Own (N.add st.nx a 0) ((st.nx,o)::st.h) b:=by
  rintro b ⟨n,p,x,h1,h2,h3,h4⟩
  by_cases e:n=st.nx
  ·subst e
   rw[Zg,if_pos rfl]at h1
   injection h1 with h1
   subst h1
   rw[ho]at h2
   cases h2
  ·rw[Zg,if_neg (fun x=>e x.symm)]at h1
   exact how b ⟨n,p,x,h1,h2,by rw[←hold n e];exact h3,h4⟩
 refine⟨⟨⟨?_,?_⟩,?_⟩,hown,hle⟩
 ·intro n p h1
  by_cases e:n=st.nx
  ·subst e
   rw[Zg,if_pos rfl]at h1
   injection h1 with h1
   subst h1
   exact hobj
  ·rw[Zg,if_neg (fun x=>e x.symm)]at h1
   exact Bt.Zd hle (Nat.le_refl _) (fun _ _=>rfl) (h.hr.Um n p h1)
 ·intro n m o1 p1 x y h1 h2 h3 h4 h5 h6
  exact absurd ⟨n,o1,x,h1,h3,h4,rfl⟩ (hown x.block)
 ·intro n hn
  rw[hold n (by simp only at hn;omega)]
  exact h.fresh n (by simp only at hn;omega)
theorem Zyo {X:Cx} {w:World} {N:Nu} {n k:Nat} {name:String} (hname:X.P.globalNamed name=some (X.γ k)) (h:Lib.TabIs X.P w name .u64 Lib.pow10Tab):Bt Lt X (N.add n ⟨X.γ k,0,none⟩ 0) w n (.Wz k Zko):=by
 unfold Lib.TabIs World.var? at h
 rw[hname]at h
 simp only[Option.bind_some]at h
 split at h
 ·rename_i cs t fz hc
  refine⟨cs,t,fz,by simp[Nu.add],hc,?_⟩
  injection h with h
  rw[h]
  exact Zsh _
 ·cases h
theorem Zyt (n m:Nat) (h:Heap):Pow ⟨(n,.Wz B.Aa Zko)::h,m⟩:=⟨n,Zko,by simp[Zh],by simp[Zko,B.Zvk]⟩
theorem Zw3 {X:Cx} {w:World} {k:Nat} {name:String} (hname:X.P.globalNamed name=some (X.γ k)) (h:Lib.TabIs X.P w name .u64 Lib.pow10Tab):∃us t fz,w.heap[X.γ k]? =some (.cells us t fz):=by
 unfold Lib.TabIs World.var? at h
 rw[hname]at h
 simp only[Option.bind_some]at h
 split at h
 ·rename_i cs t fz hc
  exact⟨cs,t,fz,hc⟩
 ·cases h
theorem Zaeq {X:Cx} {w:World} {N:Nu} {st:St} {k:Nat} {name:String} (hname:X.P.globalNamed name=some (X.γ k)) (h:Lib.TabIs X.P w name .u64 Lib.pow10Tab) (hr:SR Lt X N st w) (how:∀b,¬Own N st.h b):
  ∃N':Nu,SR Lt X N' ⟨(st.nx,.Wz k Zko)::st.h,st.nx+1⟩ w∧(∀b,¬Own N' ((st.nx,.Wz k Zko)::st.h) b)∧N.Le N':=
 ⟨_,Zk1 hr how rfl (Zyo hname h)⟩
theorem Zgo {st:St} {o:Qb} (h:st.Wf) (hp:0<st.nx):St.Wf ⟨(st.nx,o)::st.h,st.nx+1⟩:=(Ext.new h o).wf
end Go.Ev

/- Tables of the library among the objects. -/
namespace Go.Ev
open Go Go.RowKit Go.ChangeShapes Go.WideShapes Go.Deep Go.Joins
def Zzd (kd:IntKind) (zs:List Int):List AV:=zs.map fun z=> .int kd z
theorem Znb {X:Cx} {N:Nu} (kd:IntKind):∀zs:List Int,VRs X N (zs.map fun z=> .int kd z) (zs.map fun z=>Value.int kd z)
 | []=>rfl
 | z::zs=>⟨_,_,rfl,rfl,Znb kd zs⟩
theorem Zyp {X:Cx} {w:World} {N:Nu} {n k:Nat} {kd:IntKind} {zs:List Int} {name:String} (hname:X.P.globalNamed name=some (X.γ k)) (h:Lib.TabIs X.P w name kd zs):Bt Lt X (N.add n ⟨X.γ k,0,none⟩ 0) w n (.Wz k (Zzd kd zs)):=by
 unfold Lib.TabIs World.var? at h
 rw[hname]at h
 simp only[Option.bind_some]at h
 split at h
 ·rename_i cs t fz hc
  refine⟨cs,t,fz,by simp[Nu.add],hc,?_⟩
  injection h with h
  rw[h]
  exact Znb kd _
 ·cases h
theorem Zaer {X:Cx} {w:World} {N:Nu} {st:St} {k:Nat} {kd:IntKind} {zs:List Int} {name:String} (hname:X.P.globalNamed name=some (X.γ k)) (h:Lib.TabIs X.P w name kd zs) (hr:SR Lt X N st w) (how:∀b,¬Own N st.h b):
  ∃N':Nu,SR Lt X N' ⟨(st.nx,.Wz k (Zzd kd zs))::st.h,st.nx+1⟩ w∧(∀b,¬Own N' ((st.nx,.Wz k (Zzd kd zs))::st.h) b)∧N.Le N':=
 ⟨_,Zk1 hr how rfl (Zyp hname h)⟩
def Zs1:List Int:=[0,1,56,2,57,49,28,3,61,58,42,50,38,29,17,4,62,47,59,36,45,43,51,22,53,39,33,30,24,18,12,5,63,55,48,27,60,41,37,16,46,35,44,21,52,32,23,11,54,26,40,15,34,20,31,10,25,14,19,9,13,8,7,6]
theorem Ze7 {P:Program} {W:World} {x y:String×DataW Unit} {rest:List (String×DataW Unit)} {name:String} {kd:IntKind} {zs:List Int} {g:Nat} {t e:TypeId} {n:Nat}
  (hg:P.globalNamed name=some g) (hty:(P.globals[g]?).map (·.type)=some t) (ht:P.underlying t=some (.array n e)) (he:P.underlying e=some (.int kd)) (hce:P.cellsOf e=1) (hct:P.cellsOf t=n)
  (h:laidMet P (x::y::(name,Lib.tabData kd zs)::rest) W):Lib.TabIs P W name kd zs:=Lib.tabIs_of_head hg hty ht he hce hct (laidMet.tail (laidMet.tail h))
def Zub:St:=⟨[(7,.Wz B.Aa Zko),(6,.Wz 6 Zds)],8⟩
theorem Zpq:Zub.Wf:=Zgo (st:=⟨[(6,.Wz 6 Zds)],7⟩) (Zgo (st:=⟨[],6⟩) (Zw1 6) (by decide)) (by decide)
theorem Zy8:Pow Zub:=Zyt _ _ _
theorem sr14 {X:Cx} {w:World} (h1:X.P.globalNamed "math/bits.deBruijn64tab" =some (X.γ 6)) (h2:X.P.globalNamed "internal/strconv.uint64pow10" =some (X.γ B.Aa)) (t1:Lib.TabIs X.P w "math/bits.deBruijn64tab" .u8 Zs1) (t2:Lib.TabIs X.P w "internal/strconv.uint64pow10" .u64 Lib.pow10Tab):
  ∃N:Nu,SR Lt X N Zub w∧∀b,¬Own N Zub.h b:=by
 obtain⟨N1,r1,o1,_⟩:=Zaer h1 t1 (Zabt 6 w) Zys
 obtain⟨N2,r2,o2,_⟩:=Zaeq h2 t2 r1 o1
 exact⟨N2,r2,o2⟩
end Go.Ev

/- An object among the arguments, opened. -/
namespace Go.Ev
open Go Go.RowKit Go.ChangeShapes Go.WideShapes Go.Deep Go.Joins
end Go.Ev

/- A slice of drafts among the arguments. -/
namespace Go.Ev
open Go Go.RowKit Go.ChangeShapes Go.WideShapes Go.Deep Go.Joins
section
variable {H : Type} {enc : TypeId × Value → H} {P : Program} {w : World} {base : Nat} {spare : Nat → Bool} {held : Bool}
end
end Go.Ev

/- scan.Print told. -/
namespace Go.Ev
open Go
variable {T : Tab} {st : St}
end Go.Ev

/- All tokens: the reference's All. -/
namespace Go.Ev
open Go
variable {T : Tab} {st : St}
end Go.Ev

/- The plain law of reading back: a token's text, and what stands between tokens. -/
namespace Go.Ev
open Go
end Go.Ev

/- A string is appended to octets; a Builder takes a string; the binary form. -/
namespace Go.Ev
open Go
variable {T : Tab} {st : St}
end Go.Ev

/- scan.Pack told. -/
namespace Go.Ev
open Go
variable {T : Tab} {st : St}
end Go.Ev

/- The plain law of reading back: binary forms. -/
namespace Go.Ev
open Go
end Go.Ev

/- All tokens: scan.All. -/
namespace Go.Ev
open Go
variable {T : Tab} {st : St}
end Go.Ev

/- scan.All told. -/
namespace Go.Ev
open Go
variable {T : Tab} {st : St}
end Go.Ev

/- ScanAlls told, where works holds. -/
namespace Go.Ev
open Go
variable {T : Tab} {st : St}
end Go.Ev

/- reads and fails, where they hold; one token of a list; a Builder's string. -/
namespace Go.Ev
open Go
variable {T : Tab} {st : St}
end Go.Ev

/- ScanSpaces told, where works holds. -/
namespace Go.Ev
open Go
variable {T : Tab} {st : St}
end Go.Ev

/- ScanBack told, where works holds. -/
namespace Go.Ev
open Go
variable {T : Tab} {st : St}
end Go.Ev

/- More than one slice among the arguments. -/
namespace Go.Ev
open Go Go.RowKit Go.ChangeShapes Go.WideShapes Go.Deep Go.Joins
def Hg (X:Cx) (w:World) (v:Value) (es k:Nat) (cs:List AV):Prop:=cs.length=k*es∧((v= .slice none 0 0∧k=0)∨∃blk off cap,v= .slice (some ⟨blk,off,none⟩) k cap∧k≤cap∧(∃us t fz,w.heap[blk]? =some (.cells us t fz))∧∀(i:Nat) (x:AV),cs[i]? =some x→∃u,w.cell? ⟨blk,off+i,none⟩=some u∧∀N,VR X N x u)
theorem Zfd {X:Cx} {w:World} {N:Nu} {st:St} (h:SR Lt X N st w) (how:∀b,¬Own N st.h b) {b0:Nat} (hb0:∃us t fz,w.heap[b0]? =some (.cells us t fz)) {v:Value} {es k:Nat} {cs:List AV} (hs:Hg X w v es k cs):
  ∃(N':Nu) (cs':List AV) (sv:AV),SR Lt X N' ⟨(st.nx,.ro cs')::st.h,st.nx+1⟩ w∧(∀b,¬Own N' ((st.nx,.ro cs')::st.h) b)∧N.Le N'∧VR X N' sv v∧Rd ((st.nx,.ro cs')::st.h) sv es k cs:=by
 obtain⟨hl,⟨rfl,rfl⟩ | ⟨blk,off,cap,rfl,hcap,hheap,hcell⟩⟩:=hs
 ·obtain⟨us,t,fz,hh⟩:=hb0
  obtain⟨h1,h2,h3⟩:=Zk1 (o:= .ro []) (a:=⟨b0,0,none⟩) h how rfl ⟨⟨b0,0,none⟩,by simp[Nu.add],⟨us,t,fz,hh⟩,fun i x hx=>by simp at hx⟩
  exact⟨_,[],.Zc,h1,h2,h3,rfl,.inl ⟨rfl,rfl,List.length_eq_zero_iff.1 (by rw[hl];simp)⟩⟩
 ·obtain⟨h1,h2,h3⟩:=Zk1 (o:= .ro cs) (a:=⟨blk,off,none⟩) h how rfl ⟨⟨blk,off,none⟩,by simp[Nu.add],hheap,fun i x hx=>by
   obtain⟨u,hu,hv⟩:=hcell i x hx
   exact⟨u,hu,hv _⟩⟩
  refine⟨_,cs,.slice st.nx 0 k .unk,h1,h2,h3,⟨⟨blk,off,none⟩,cap,by simp[Nu.add],rfl,hcap,trivial⟩,.inr ⟨st.nx,0,.unk,rfl,?_⟩⟩
  simp only[Qg,Zg,if_true]
  rw[if_pos (by omega),List.drop_zero,List.take_of_length_le (by omega)]
section
variable {H : Type} {enc : TypeId × Value → H} {P : Program} {w : World} {base : Nat} {spare : Nat → Bool} {held : Bool}
theorem Zwf {X:Cx} {r:Reach} {b0:Nat} {te tsl:TypeId} {v:Value} {d:DataW H} {p:List MemPlace} (hc:P.cellsOf te=1) (hsl:P.underlying tsl=some (.slice te)) {α:Type} [Inhabited α] (val:α→AV)
  (hel:∀{fuel:Nat} {cs:List Value} {x:DataW H×List MemPlace},DataW.trod enc P w base spare held fuel te cs=some x→∃(z:α) (u:Value),cs=[u]∧∀N,VR X N (val z) u)
  (hv:Value.okWide P w r b0 tsl v) (h:DataW.Trod enc P w base spare held tsl v d p):∃l:List α,Hg X w v 1 l.length (l.map val)∧l.length<9223372036854775808:=by
 obtain⟨a0,len0,cap0,rfl⟩:=okWide_slice hsl hv
 obtain⟨fuel,hf⟩:=h
 rcases open_slice hsl hf with ⟨hcs,_⟩ | ⟨a,len,cap,m,n2,D,Pl,hcs,hba,hl,hm,hmm,_,hels⟩
 ·simp[Value.cells]at hcs
  obtain⟨rfl,rfl,rfl⟩:=hcs
  exact⟨[],⟨rfl,.inl ⟨rfl,rfl⟩⟩,by simp⟩
 ·simp[Value.cells]at hcs
  obtain⟨rfl,rfl,rfl⟩:=hcs
  have hcell:Cell.okWide P w r b0 tsl (.slice (some a) len0 cap0):=by
   simpa only[Value.okWide,hsl] using hv
  have hhas:a.spot=none∧∃us tt fz,w.heap[a.block]? =some (.cells us tt fz):=by
   simp only[Cell.okWide,hsl,Cell.ok,World.has]at hcell
   obtain⟨_,_,_,h3,row,cells,h4,_⟩:=hcell
   refine⟨h3,?_⟩
   unfold World.shape? at h4
   split at h4
   ·exact⟨_,_,_,by assumption⟩
   ·cases h4
  obtain⟨hsp,us,tt,fz,hheap⟩:=hhas
  obtain⟨blk,off,spot⟩:=a
  simp only at hsp
  subst hsp
  have hmlen:len0≤m:=by rw[hmm];split <;> omega
  have hdr:∀j,j<len0→∃z:α,∃u,w.cell? ⟨blk,off+j,none⟩=some u∧∀N,VR X N (val z) u:=by
   intro j hj
   obtain⟨cs',h3,h4⟩:=hels j (by omega)
   rw[hc]at h3
   obtain⟨z,u,rfl,hz⟩:=hel h4
   obtain⟨_,_,h9⟩:=World.cells?_some h3
   have h10:=h9 0 (by omega)
   simp only[List.getElem?_cons_zero,Nat.mul_one]at h10
   rw[Deep.add_add,Nat.add_zero]at h10
   refine⟨z,u,?_,hz⟩
   unfold Addr.add at h10
   split at h10
   ·rename_i hj0;rw[hj0];exact h10
   ·exact h10
  obtain⟨f,hff⟩:=Deep.choose_lt (α:=α) (p:=fun j z=>∃u,w.cell? ⟨blk,off+j,none⟩=some u∧∀N,VR X N (val z) u) hdr
  have hll:((List.range len0).map f).length=len0:=by simp
  have:maxLen≤9223372036854775807:=by decide
  refine⟨(List.range len0).map f,⟨by simp,.inr ⟨blk,off,cap0,by rw[hll],by rw[hll];exact hl,⟨us,tt,fz,hheap⟩,fun i x hx=> ?_⟩⟩,by rw[hll];omega⟩
  have hi:i<len0:=by
   have:=(List.getElem?_eq_some_iff.1 hx).1
   simpa using this
  have hx':x=val (f i):=by
   simp[hi]at hx
   exact hx.symm
  subst hx'
  exact hff i hi
end
end Go.Ev

/- Drafts of states and words among the arguments, opened; the package's names among the objects. -/
namespace Go.Ev
open Go Go.RowKit Go.ChangeShapes Go.WideShapes Go.Deep Go.Joins
def Zab {H:Type} (ss:List (List UInt8)):DataW H:= .agg (ss.map fun s=> .lit (.string s))
theorem Zle {P:Program} {W:World} {spare:Nat→Bool} {held:Bool} {fuel:Nat} {t e:TypeId} {n:Nat} {cs:List Value} {q:List MemPlace} {ss:List (List UInt8)} (ht:P.underlying t=some (.array n e)) (he:P.underlying e=some .string) (hce:P.cellsOf e=1)
  (h:DataW.trod (H:=Unit) (fun _=>()) P W 0 spare held fuel t cs=some (Zab ss,q)):∃bs:List ByteArray,cs.length=P.cellsOf t∧bs.length=n∧ss=bs.map (fun b=>b.data.toList)∧∀i b,bs[i]? =some b→(cs.drop i).take 1=[.string b]:=by
 obtain⟨xs,m,_,hx,hl,hxl,hel⟩:=DataW.trod_array ht h
 simp only[Zab,Prod.mk.injEq,DataW.agg.injEq]at hx
 obtain⟨hx,_⟩:=hx
 have key:∀i,i<n→∃b:ByteArray,(cs.drop i).take 1=[.string b]∧ss[i]? =some b.data.toList:=fun i hi=>by
  have h1:=hel i hi
  rw[hce,Nat.mul_one]at h1
  obtain⟨y,hy⟩:∃y,xs[i]? =some y:=⟨_,List.getElem?_eq_getElem (by omega)⟩
  rw[hy]at h1
  obtain⟨s,hs,hd,_⟩:=DataW.trod_string he h1
  refine⟨s,hs,?_⟩
  have h2:=congrArg (fun l=>l[i]?) hx
  simp only[List.getElem?_map,hy,Option.map_some]at h2
  cases hss:ss[i]? with
  | none=>rw[hss]at h2;cases h2
  | some u=>
    rw[hss,hd]at h2
    simp only[Option.map_some,Option.some.injEq,DataW.lit.injEq,Lit.string.injEq]at h2
    rw[h2]
 obtain⟨f,hf⟩:=Deep.choose_lt (α:=ByteArray) key
 have hsl:ss.length=n:=by
  have:=congrArg List.length hx
  simp at this
  omega
 refine⟨(List.range n).map f,hl,by simp,?_,fun i b hb=> ?_⟩
 ·apply List.ext_getElem?
  intro i
  by_cases hi:i<n
  ·rw[(hf i hi).2];simp[hi]
  ·rw[List.getElem?_eq_none (by omega),List.getElem?_eq_none (by simp;omega)]
 ·have hi:i<n:=by
   have:=(List.getElem?_eq_some_iff.1 hb).1
   simpa using this
  have:b=f i:=by simp[hi]at hb;exact hb.symm
  rw[this]
  exact(hf i hi).1
theorem Zwe {X:Cx} {w:World} {N:Nu} {n k:Nat} {ss:List (List UInt8)} {rest:List (String×DataW Unit)} {name:String} {t e:TypeId} {m:Nat} (hname:X.P.globalNamed name=some (X.γ k)) (hty:(X.P.globals[X.γ k]?).map (·.type)=some t) (ht:X.P.underlying t=some (.array m e)) (he:X.P.underlying e=some .string) (hce:X.P.cellsOf e=1) (hct:X.P.cellsOf t=m)
  (h:laidMet X.P ((name,Zab ss)::rest) w):Bt Lt X (N.add n ⟨X.γ k,0,none⟩ 0) w n (.Wz k (ss.map AV.str)):=by
 obtain⟨ps,⟨g',t',cs,fuel,p,q,hg',ht',hvar,hd,_,_⟩,_⟩:=h
 obtain rfl:=Option.some.inj (hname.symm.trans hg')
 obtain rfl:=Option.some.inj (hty.symm.trans ht')
 obtain⟨bs,h1,h2,h3,h4⟩:=Zle ht he hce hd
 unfold World.var? at hvar
 rw[hname]at hvar
 simp only[Option.bind_some]at hvar
 split at hvar
 ·rename_i us tt fz hc
  refine⟨us,tt,fz,by simp[Nu.add],hc,?_⟩
  injection hvar with hvar
  rw[hvar]
  have hcs:cs.toList=bs.map Value.string:=by
   apply List.ext_getElem?
   intro i
   by_cases hi:i<m
   ·obtain⟨b,hb⟩:∃b,bs[i]? =some b:=⟨_,List.getElem?_eq_getElem (by omega)⟩
    have h5:=h4 i b hb
    have h6:(cs.toList.drop i)[0]? =some (.string b):=by
     have:=congrArg (fun l=>l[0]?) h5
     simpa [List.getElem?_take] using this
    rw[List.getElem?_drop,Nat.add_zero]at h6
    rw[h6]
    simp[hb]
   ·rw[List.getElem?_eq_none (by omega),List.getElem?_eq_none (by simp;omega)]
  rw[hcs,h3]
  clear h1 h2 h3 h4 hcs hvar hd
  induction bs with
  | nil=>rfl
  | cons b bs ih=>exact⟨_,_,rfl,by simp[VR],ih⟩
 ·cases hvar
theorem Zabu {X:Cx} {w:World} {N:Nu} {st:St} {k:Nat} {ss:List (List UInt8)} {rest:List (String×DataW Unit)} {name:String} {t e:TypeId} {m:Nat} (hname:X.P.globalNamed name=some (X.γ k)) (hty:(X.P.globals[X.γ k]?).map (·.type)=some t) (ht:X.P.underlying t=some (.array m e)) (he:X.P.underlying e=some .string) (hce:X.P.cellsOf e=1) (hct:X.P.cellsOf t=m)
  (h:laidMet X.P ((name,Zab ss)::rest) w) (hr:SR Lt X N st w) (how:∀b,¬Own N st.h b):
  ∃N':Nu,SR Lt X N' ⟨(st.nx,.Wz k (ss.map AV.str))::st.h,st.nx+1⟩ w∧(∀b,¬Own N' ((st.nx,.Wz k (ss.map AV.str))::st.h) b)∧N.Le N':=
 ⟨_,Zk1 hr how rfl (Zwe hname hty ht he hce hct h)⟩
def Zr8:St:=⟨(8,.Wz 8 Zau)::Zub.h,9⟩
theorem Ze6:Zr8.Wf:=Zgo (st:=Zub) Zpq (by decide)
theorem Zwy:Ext Zub Zr8:=Ext.new Zpq _
theorem Zwz:Pow Zr8:=Zy8.ext Zwy Zpq
theorem Zwx:Bru Zr8:=rfl
theorem Zw0:Wrd Zr8:=rfl
section
variable {H : Type} {enc : TypeId × Value → H} {P : Program} {w : World} {base : Nat} {spare : Nat → Bool} {held : Bool}
structure Zp0 (P:Program) (td tu:TypeId):Prop where
 s:∃f0 f1 f2 f3 f4:Field,P.underlying td=some (.struct #[f0,f1,f2,f3,f4])∧(f0.offset=0∧f1.offset=1∧f2.offset=2∧f3.offset=3∧f4.offset=4)∧(P.cellsOf f0.type=1∧P.cellsOf f1.type=1∧P.cellsOf f2.type=1∧P.cellsOf f3.type=1∧P.cellsOf f4.type=1)∧
  P.underlying f0.type=some (.int .u8)∧P.underlying f1.type=some (.int .u8)∧P.underlying f2.type=some (.int .u8)∧P.underlying f3.type=some (.int .i32)∧P.underlying f4.type=some .string
 c:P.cellsOf td=5
def wdV (d:Wd) (s:ByteArray):List Value:=[.int .u8 (d.K:Int),.int .u8 (d.A:Int),.int .u8 (d.B:Int),.int .i32 d.N,.string s]
theorem Zc6 {td tu:TypeId} (ht:Zp0 P td tu) {fuel:Nat} {cs:List Value} {x:DataW H×List MemPlace} (h:DataW.trod enc P w base spare held fuel td cs=some x):
  ∃(d:Wd) (s:ByteArray),d.ok∧d.S=s.data.toList∧cs=wdV d s:=by
 obtain⟨⟨f0,f1,f2,f3,f4,hs,⟨o0,o1,o2,o3,o4⟩,⟨c0,c1,c2,c3,c4⟩,h0,h1,h2,h3,h4⟩,hC⟩:=ht
 obtain⟨xs,n,_,_,hl,hxl,hel⟩:=DataW.trod_struct hs h
 rw[hC]at hl
 match cs,hl with
 | [a,b,c,d,f],_=>
   have e0:=hel 0 f0 rfl
   have e1:=hel 1 f1 rfl
   have e2:=hel 2 f2 rfl
   have e3:=hel 3 f3 rfl
   have e4:=hel 4 f4 rfl
   rw[o0,c0]at e0
   rw[o1,c1]at e1
   rw[o2,c2]at e2
   rw[o3,c3]at e3
   rw[o4,c4]at e4
   have hx5:xs.length=5:=by rw[hxl];rfl
   obtain⟨y0,hy0⟩:∃y,xs[0]? =some y:=⟨_,List.getElem?_eq_getElem (by omega)⟩
   obtain⟨y1,hy1⟩:∃y,xs[1]? =some y:=⟨_,List.getElem?_eq_getElem (by omega)⟩
   obtain⟨y2,hy2⟩:∃y,xs[2]? =some y:=⟨_,List.getElem?_eq_getElem (by omega)⟩
   obtain⟨y3,hy3⟩:∃y,xs[3]? =some y:=⟨_,List.getElem?_eq_getElem (by omega)⟩
   obtain⟨y4,hy4⟩:∃y,xs[4]? =some y:=⟨_,List.getElem?_eq_getElem (by omega)⟩
   rw[hy0]at e0
   rw[hy1]at e1
   rw[hy2]at e2
   rw[hy3]at e3
   rw[hy4]at e4
   simp only[List.drop_zero,List.take_succ_cons,List.take_zero,List.drop_succ_cons]at e0 e1 e2 e3 e4
   obtain⟨k,k0,_,wk⟩:=DataW.trod_int h0 e0
   obtain⟨l,l0,_,wl⟩:=DataW.trod_int h1 e1
   obtain⟨m,m0,_,wm⟩:=DataW.trod_int h2 e2
   obtain⟨q,q0,_,wq⟩:=DataW.trod_int h3 e3
   obtain⟨s,s0,_,ws⟩:=DataW.trod_string h4 e4
   simp only[List.cons.injEq,and_true]at k0 l0 m0 q0 s0
   subst k0 l0 m0 q0 s0
   have wk':=wf_u8 wk
   have wl':=wf_u8 wl
   have wm':=wf_u8 wm
   have wq':=wf_i32 wq
   obtain⟨k,rfl⟩:=Int.eq_ofNat_of_zero_le wk'.1
   obtain⟨l,rfl⟩:=Int.eq_ofNat_of_zero_le wl'.1
   obtain⟨m,rfl⟩:=Int.eq_ofNat_of_zero_le wm'.1
   have hml:maxLen≤9223372036854775807:=by decide
   refine⟨⟨k,l,m,q,s.data.toList⟩,s,⟨by show k<256;omega,by show l<256;omega,by show m<256;omega,wq'.1,wq'.2,?_⟩,rfl,rfl⟩
   show s.data.toList.length<_
   rw[Array.length_toList]
   exact Nat.lt_of_le_of_lt (Nat.le_trans ws hml) (by decide)
theorem Zpt:∀l:List Wd,(l.flatMap Wd.c).length=l.length*5
 | []=>rfl
 | x::r=>by rw[List.flatMap_cons,List.length_append,Zpt r,List.length_cons];simp[Wd.c];omega
theorem Zab3 {l:List Wd} {i:Nat} {x:AV} (h:(l.flatMap Wd.c)[i]? =some x):∃d,l[i / 5]? =some d∧d.c[i % 5]? =some x:=by
 have hi:i<(l.flatMap Wd.c).length:=(List.getElem?_eq_some_iff.1 h).1
 rw[Zpt]at hi
 obtain⟨d,hd⟩:∃d,l[i / 5]? =some d:=⟨_,List.getElem?_eq_getElem (by omega)⟩
 refine⟨d,hd,?_⟩
 rw[←Zuh hd,List.getElem?_take,if_pos (by omega),List.getElem?_drop,show i / 5*5+i % 5=i by omega]
 exact h
theorem Zac1 {X:Cx} {N:Nu} {d:Wd} {s:ByteArray} (ht:d.S=s.data.toList) {i:Nat} {x:AV} (hx:d.c[i]? =some x):∃u,(wdV d s)[i]? =some u∧VR X N x u:=by
 have hi:i<5:=by
  have:=(List.getElem?_eq_some_iff.1 hx).1
  simpa [Wd.c] using this
 have:i=0∨i=1∨i=2∨i=3∨i=4:=by omega
 rcases this with rfl | rfl | rfl | rfl | rfl <;> (simp[Wd.c]at hx;subst hx)
 ·exact⟨_,rfl,rfl⟩
 ·exact⟨_,rfl,rfl⟩
 ·exact⟨_,rfl,rfl⟩
 ·exact⟨_,rfl,rfl⟩
 ·exact⟨_,rfl,by rw[ht];simp[VR]⟩
theorem Zla {X:Cx} {r:Reach} {b0:Nat} {td tu tsl:TypeId} {v:Value} {d:DataW H} {p:List MemPlace} (hT:Zp0 P td tu) (hsl:P.underlying tsl=some (.slice td))
  (hv:Value.okWide P w r b0 tsl v) (h:DataW.Trod enc P w base spare held tsl v d p):
  ∃l:List Wd,Hg X w v 5 l.length (l.flatMap Wd.c)∧∀d∈l,d.ok:=by
 obtain⟨a0,len0,cap0,rfl⟩:=okWide_slice hsl hv
 obtain⟨fuel,hf⟩:=h
 rcases open_slice hsl hf with ⟨hcs,_⟩ | ⟨a,len,cap,m,n2,D,Pl,hcs,hba,hl,hm,hmm,_,hel⟩
 ·simp[Value.cells]at hcs
  obtain⟨rfl,rfl,rfl⟩:=hcs
  exact⟨[],⟨rfl,.inl ⟨rfl,rfl⟩⟩,fun d hd=>by cases hd⟩
 ·simp[Value.cells]at hcs
  obtain⟨rfl,rfl,rfl⟩:=hcs
  have hcell:Cell.okWide P w r b0 tsl (.slice (some a) len0 cap0):=by
   simpa only[Value.okWide,hsl] using hv
  have hhas:a.spot=none∧∃us tt fz,w.heap[a.block]? =some (.cells us tt fz):=by
   simp only[Cell.okWide,hsl,Cell.ok,World.has]at hcell
   obtain⟨_,_,_,h3,row,cells,h4,_⟩:=hcell
   refine⟨h3,?_⟩
   unfold World.shape? at h4
   split at h4
   ·exact⟨_,_,_,by assumption⟩
   ·cases h4
  obtain⟨hsp,us,tt,fz,hheap⟩:=hhas
  obtain⟨blk,off,spot⟩:=a
  simp only at hsp
  subst hsp
  have hmlen:len0≤m:=by rw[hmm];split <;> omega
  have hdr:∀j,j<len0→∃d:Wd,d.ok∧∀i x,d.c[i]? =some x→∃u,w.cell? ⟨blk,off+(j*5+i),none⟩=some u∧∀N,VR X N x u:=by
   intro j hj
   obtain⟨cs',h3,h4⟩:=hel j (by omega)
   rw[hT.c]at h3
   obtain⟨d,s,hd,ht,rfl⟩:=Zc6 hT h4
   refine⟨d,hd,fun i x hx=> ?_⟩
   obtain⟨_,_,h9⟩:=World.cells?_some h3
   have hi:i<5:=by
    have:=(List.getElem?_eq_some_iff.1 hx).1
    simpa [Wd.c] using this
   have h10:=h9 i hi
   rw[Deep.add_add]at h10
   have hcell2:w.cell? ⟨blk,off+(j*5+i),none⟩=(wdV d s)[i]? :=by
    unfold Addr.add at h10
    split at h10
    ·rename_i hj0;rw[hj0];exact h10
    ·exact h10
   obtain⟨u,hu,hvr⟩:=Zac1 (X:=X) (N:=Nu.none) ht hx
   refine⟨u,hcell2.trans hu,fun N=> ?_⟩
   obtain⟨u',hu',hvr'⟩:=Zac1 (X:=X) (N:=N) ht hx
   rw[hu]at hu'
   cases hu'
   exact hvr'
  obtain⟨f,hff⟩:=Deep.choose_lt (α:=Wd) (p:=fun j d=>d.ok∧∀i x,d.c[i]? =some x→∃u,w.cell? ⟨blk,off+(j*5+i),none⟩=some u∧∀N,VR X N x u) hdr
  let l:List Wd:=(List.range len0).map f
  have hll:l.length=len0:=by simp[l]
  have hxs:(l.flatMap Wd.c).length=len0*5:=by rw[Zpt,hll]
  refine⟨l,⟨by rw[hxs,hll],.inr ⟨blk,off,cap0,by rw[hll],by rw[hll];exact hl,⟨us,tt,fz,hheap⟩,fun i x hx=> ?_⟩⟩,?_⟩
  ·obtain⟨d,hd,hx⟩:=Zab3 hx
   have hi:i / 5<len0:=by rw[←hll];exact(List.getElem?_eq_some_iff.1 hd).1
   have hd2:d=f (i / 5):=by
    simp[l,hi]at hd
    exact hd.symm
   subst hd2
   have:=(hff (i / 5) hi).2 (i % 5) x hx
   rw[show i / 5*5+i % 5=i by omega]at this
   exact this
  ·intro d hd
   obtain⟨j,hj,rfl⟩:=List.mem_map.1 hd
   exact(hff j (List.mem_range.1 hj)).1
theorem Zrl {X:Cx} {r:Reach} {b0:Nat} {te tsl:TypeId} {v:Value} {d:DataW H} {p:List MemPlace} (he:P.underlying te=some (.int .u8)) (hc:P.cellsOf te=1) (hsl:P.underlying tsl=some (.slice te))
  (hv:Value.okWide P w r b0 tsl v) (h:DataW.Trod enc P w base spare held tsl v d p):∃l:List UInt8,Hg X w v 1 l.length (l.map fun b=> .int .u8 b.toNat)∧l.length<9223372036854775808:=
 Zwf (X:=X) hc hsl (fun b:UInt8=> .int .u8 b.toNat) (fun h=>by
  obtain⟨n,hn,_,wn⟩:=DataW.trod_int he h
  have:=wf_u8 wn
  obtain⟨n,rfl⟩:=Int.eq_ofNat_of_zero_le this.1
  refine⟨UInt8.ofNat n,_,hn,fun N=> ?_⟩
  have h256:n<256:=by omega
  simp only[VR]
  congr 2
  simp[UInt8.toNat_ofNat',Nat.mod_eq_of_lt h256]) hv h
theorem Zxy {X:Cx} {r:Reach} {b0:Nat} {tD tW tB td tu te:TypeId} {f0 f1 f2:Field} {v:Value} {d:DataW H} {p:List MemPlace} (hs:P.underlying tD=some (.struct #[f0,f1,f2])) (ho:f0.offset=0∧f1.offset=1∧f2.offset=2) (hf:f0.type=tW∧f1.type=tW∧f2.type=tB) (hc:P.cellsOf tW=1∧P.cellsOf tB=1∧P.cellsOf tD=3) (hct:P.cellTypes P.depth tD=some [tW,tW,tB])
  (hT:Zp0 P td tu) (hW:P.underlying tW=some (.slice td)) (hB:P.underlying tB=some (.slice te)) (he:P.underlying te=some (.int .u8)) (hce:P.cellsOf te=1)
  (hv:Value.okWide P w r b0 tD v) (h:DataW.Trod enc P w base spare held tD v d p):
  ∃a b c,v= .agg #[a,b,c]∧(∃l:List Wd,Hg X w a 5 l.length (l.flatMap Wd.c)∧∀d∈l,d.ok)∧(∃l:List Wd,Hg X w b 5 l.length (l.flatMap Wd.c)∧∀d∈l,d.ok)∧(∃l:List UInt8,Hg X w c 1 l.length (l.map fun b=> .int .u8 b.toNat)∧l.length<9223372036854775808):=by
 have hv':=hv
 simp only[Value.okWide,hs]at hv'
 obtain⟨cs,rfl,hsz,ts,hts,_,hrow⟩:=hv'
 rw[hc.2.2]at hsz
 rw[hct]at hts
 obtain rfl:=Option.some.inj hts
 obtain⟨a,b,c,rfl⟩:∃a b c,cs= #[a,b,c]:=by
  obtain⟨l⟩:=cs
  match l,hsz with
  | [a,b,c],_=>exact⟨a,b,c,rfl⟩
 obtain⟨fuel,hfu⟩:=h
 obtain⟨xs,n,_,hx,_,hlen,hq⟩:=DataW.trod_struct hs hfu
 have q0:=hq 0 f0 rfl
 have q1:=hq 1 f1 rfl
 have q2:=hq 2 f2 rfl
 rw[ho.1,hf.1,hc.1]at q0
 rw[ho.2.1,hf.2.1,hc.1]at q1
 rw[ho.2.2,hf.2.2,hc.2.1]at q2
 have hx3:xs.length=3:=by rw[hlen];rfl
 obtain⟨y0,hy0⟩:∃y,xs[0]? =some y:=⟨_,List.getElem?_eq_getElem (by omega)⟩
 obtain⟨y1,hy1⟩:∃y,xs[1]? =some y:=⟨_,List.getElem?_eq_getElem (by omega)⟩
 obtain⟨y2,hy2⟩:∃y,xs[2]? =some y:=⟨_,List.getElem?_eq_getElem (by omega)⟩
 rw[hy0]at q0
 rw[hy1]at q1
 rw[hy2]at q2
 simp[Value.cells]at q0 q1 q2
 have g0:Cell.okWide P w r b0 tW a:=by
  obtain⟨u,h1,h2⟩:=hrow 0 a rfl
  simp at h1
  subst h1
  exact h2
 have g1:Cell.okWide P w r b0 tW b:=by
  obtain⟨u,h1,h2⟩:=hrow 1 b rfl
  simp at h1
  subst h1
  exact h2
 have g2:Cell.okWide P w r b0 tB c:=by
  obtain⟨u,h1,h2⟩:=hrow 2 c rfl
  simp at h1
  subst h1
  exact h2
 have one:∀{t e:TypeId} {z:Value},P.underlying t=some (.slice e)→Cell.okWide P w r b0 t z→Value.okWide P w r b0 t z:=fun ht hz=>by
  simpa only[Value.okWide,ht] using hz
 have cell:∀{t e:TypeId} {z:Value},P.underlying t=some (.slice e)→Value.okWide P w r b0 t z→z.cells.toList=[z]:=fun ht hz=>by
  obtain⟨_,_,_,rfl⟩:=okWide_slice ht hz
  rfl
 refine⟨a,b,c,rfl,?_,?_,?_⟩
 ·exact Zla hT hW (one hW g0) ⟨n,by rw[cell hW (one hW g0)];exact q0⟩
 ·exact Zla hT hW (one hW g1) ⟨n,by rw[cell hW (one hW g1)];exact q1⟩
 ·exact Zrl he hce hB (one hB g2) ⟨n,by rw[cell hB (one hB g2)];exact q2⟩
theorem Zsk {r:Reach} {b0:Nat} {tA td tu:TypeId} {v:Value} {d:DataW H} {p:List MemPlace} (hA:P.underlying tA=some (.array 2 td)) (hC:P.cellsOf tA=10) (hT:Zp0 P td tu)
  (hv:Value.okWide P w r b0 tA v) (h:DataW.Trod enc P w base spare held tA v d p):
  ∃(x y:Wd) (s t:ByteArray),x.ok∧y.ok∧x.S=s.data.toList∧y.S=t.data.toList∧v= .agg (wdV x s++wdV y t).toArray:=by
 simp only[Value.okWide,hA]at hv
 obtain⟨cs,rfl,hsz,_⟩:=hv
 rw[hC]at hsz
 obtain⟨fuel,hf⟩:=h
 obtain⟨xs,n,_,hx,hl,hlen,hq⟩:=DataW.trod_array hA hf
 have q0:=hq 0 (by omega)
 have q1:=hq 1 (by omega)
 rw[hT.c]at q0 q1
 obtain⟨y0,hy0⟩:∃y,xs[0]? =some y:=⟨_,List.getElem?_eq_getElem (by omega)⟩
 obtain⟨y1,hy1⟩:∃y,xs[1]? =some y:=⟨_,List.getElem?_eq_getElem (by omega)⟩
 rw[hy0]at q0
 rw[hy1]at q1
 obtain⟨x,s,hx1,hx2,e0⟩:=Zc6 hT q0
 obtain⟨y,t,hz1,hz2,e1⟩:=Zc6 hT q1
 refine⟨x,y,s,t,hx1,hz1,hx2,hz2,?_⟩
 have hcs:cs.toList=wdV x s++wdV y t:=by
  have hlen:cs.toList.length=10:=by simpa using hsz
  have hc:(Value.agg cs).cells=cs:=rfl
  rw[hc]at e0 e1
  rw[←e0,←e1]
  match hcl:cs.toList,hlen with
  | [a0,a1,a2,a3,a4,a5,a6,a7,a8,a9],_=>simp
 rw[←hcs]
end
theorem Zy7 {X:Cx} {w:World} {N:Nu} {st:St} (hr:SR Lt X N st w) (how:∀b,¬Own N st.h b) (hwf:st.Wf) (h0:0<st.nx) {b0:Nat} (hb0:∃us t fz,w.heap[b0]? =some (.cells us t fz)) {a b c:Value} {l1 l2:List Wd} {l3:List UInt8}
  (ha:Hg X w a 5 l1.length (l1.flatMap Wd.c)) (k1:∀d∈l1,d.ok) (hb:Hg X w b 5 l2.length (l2.flatMap Wd.c)) (k2:∀d∈l2,d.ok) (hc:Hg X w c 1 l3.length (l3.map fun b=> .int .u8 b.toNat)):
  ∃(N':Nu) (st':St) (vc vo vd:AV),SR Lt X N' st' w∧(∀b,¬Own N' st'.h b)∧N.Le N'∧st'.Wf∧Ext st st'∧VR X N' (.agg [vc,vo,vd]) (.agg #[a,b,c])∧InW st'.h vc l1∧InW st'.h vo l2∧Rd st'.h vd 1 l3.length (l3.map fun b=> .int .u8 b.toNat):=by
 obtain⟨N1,c1,v1,hr1,how1,le1,hv1,r1⟩:=Zfd hr how hb0 ha
 have wf1:St.Wf ⟨(st.nx,.ro c1)::st.h,st.nx+1⟩:=Zgo hwf h0
 have x1:Ext st ⟨(st.nx,.ro c1)::st.h,st.nx+1⟩:=Ext.new hwf (.ro c1)
 obtain⟨N2,c2,v2,hr2,how2,le2,hv2,r2⟩:=Zfd hr1 how1 hb0 hb
 have wf2:St.Wf ⟨(st.nx+1,.ro c2)::(st.nx,.ro c1)::st.h,st.nx+1+1⟩:=Zgo wf1 (Nat.succ_pos _)
 have x2:Ext ⟨(st.nx,.ro c1)::st.h,st.nx+1⟩ ⟨(st.nx+1,.ro c2)::(st.nx,.ro c1)::st.h,st.nx+1+1⟩:=Ext.new wf1 (.ro c2)
 obtain⟨N3,c3,v3,hr3,how3,le3,hv3,r3⟩:=Zfd hr2 how2 hb0 hc
 have wf3:St.Wf ⟨(st.nx+1+1,.ro c3)::(st.nx+1,.ro c2)::(st.nx,.ro c1)::st.h,st.nx+1+1+1⟩:=Zgo wf2 (Nat.succ_pos _)
 have x3:Ext ⟨(st.nx+1,.ro c2)::(st.nx,.ro c1)::st.h,st.nx+1+1⟩ ⟨(st.nx+1+1,.ro c3)::(st.nx+1,.ro c2)::(st.nx,.ro c1)::st.h,st.nx+1+1+1⟩:=Ext.new wf2 (.ro c3)
 refine⟨N3,_,v1,v2,v3,hr3,how3,(le1.trans le2).trans le3,wf3,(x1.trans x2).trans x3,?_,⟨r1.ext (x2.trans x3) wf1,k1⟩,⟨r2.ext x3 wf2,k2⟩,r3⟩
 exact⟨_,rfl,⟨_,_,rfl,VR.mono (le2.trans le3) _ hv1,⟨_,_,rfl,VR.mono le3 _ hv2,⟨_,_,rfl,hv3,rfl⟩⟩⟩⟩
theorem Zsi {X:Cx} {N:Nu} {d:Wd} {s:ByteArray} (ht:d.S=s.data.toList):VRs X N d.c (wdV d s):=
 ⟨_,_,rfl,rfl,⟨_,_,rfl,rfl,⟨_,_,rfl,rfl,⟨_,_,rfl,rfl,⟨_,_,rfl,by rw[ht];simp[VR],rfl⟩⟩⟩⟩⟩
theorem Zk7 {X:Cx} {N:Nu}:∀{a b:List AV} {us vs:List Value},VRs X N a us→VRs X N b vs→VRs X N (a++b) (us++vs)
 | [],b,us,vs,h,h2=>by cases h;exact h2
 | x::a,b,us,vs,⟨u,r,e,h1,h2⟩,h3=>by subst e;exact⟨u,r++vs,rfl,h1,Zk7 h2 h3⟩
theorem Zw6 {X:Cx} {N:Nu} {x y:Wd} {s t:ByteArray} (hx:x.S=s.data.toList) (hy:y.S=t.data.toList):VR X N (.agg (x.c++y.c)) (.agg (wdV x s++wdV y t).toArray):=⟨_,rfl,by simpa using Zk7 (Zsi hx) (Zsi hy)⟩
end Go.Ev

/- The functions that the law LogicOrders reaches: their numbers, and the check of each body, printed by a program of this work. -/
namespace Go.Ev.LogicOrders
open Go Go.Proofs Go.Ev
def phiT:NT:=(.node (.node (.node (.node (.node (.node (.node (.node .nil 53 207 .nil) 63 140 .nil) 75 169 (.node .nil 76 170 .nil)) 77 171 (.node (.node (.node .nil 84 241 .nil)
 91 150 .nil) 92 151 (.node .nil 94 194 .nil))) 95 195 (.node (.node (.node (.node .nil 96 196 .nil) 97 197 .nil) 98 198 (.node .nil 99 199 .nil)) 100 200 (.node (.node (.node .nil 109
 175 .nil) 110 191 .nil) 112 216 (.node .nil 113 219 .nil)))) 114 220 (.node (.node (.node (.node (.node .nil 115 221 .nil) 116 222 .nil) 118 201 (.node .nil 119 228 .nil)) 120 235 (.node
 (.node (.node .nil 121 236 .nil) 122 229 .nil) 123 215 (.node .nil 132 82 .nil))) 133 125 (.node (.node (.node (.node .nil 136 164 .nil) 137 163 .nil) 138 165 (.node .nil 139 192 .nil))
 140 217 (.node (.node (.node .nil 141 218 .nil) 142 230 .nil) 143 231 (.node .nil 144 232 .nil))))) 145 233 (.node (.node (.node (.node (.node (.node .nil 146 234 .nil) 147 242 .nil)
 148 239 (.node .nil 149 238 .nil)) 295 5 (.node (.node (.node .nil 300 11 .nil) 301 23 .nil) 302 28 (.node .nil 303 26 .nil))) 304 29 (.node (.node (.node (.node .nil 305 30 .nil) 306
 22 .nil) 307 24 (.node .nil 308 14 .nil)) 309 25 (.node (.node (.node .nil 310 18 .nil) 311 27 .nil) 312 31 (.node .nil 313 32 .nil)))) 314 33 (.node (.node (.node (.node (.node .nil
 316 21 .nil) 325 61 .nil) 326 89 (.node .nil 327 90 .nil)) 328 91 (.node (.node (.node .nil 329 92 .nil) 330 36 .nil) 331 37 (.node .nil 332 38 .nil))) 333 39 (.node (.node (.node (.node
 .nil 334 40 .nil) 335 41 .nil) 336 42 (.node .nil 337 43 .nil)) 338 44 (.node (.node (.node .nil 339 45 .nil) 340 46 .nil) 341 47 (.node .nil 342 48 .nil)))))) 343 50 (.node (.node
 (.node (.node (.node (.node (.node .nil 344 49 .nil) 345 51 .nil) 346 52 (.node .nil 347 53 .nil)) 348 54 (.node (.node (.node .nil 349 55 .nil) 350 56 .nil) 351 57 (.node .nil 352
 58 .nil))) 353 59 (.node (.node (.node (.node .nil 354 87 .nil) 355 88 .nil) 356 73 (.node .nil 357 86 .nil)) 358 93 (.node (.node (.node .nil 359 70 .nil) 360 69 .nil) 362 78 (.node
 .nil 363 79 .nil)))) 364 81 (.node (.node (.node (.node (.node .nil 365 83 .nil) 366 85 .nil) 375 72 (.node .nil 379 131 .nil)) 380 132 (.node (.node (.node .nil 381 133 .nil) 382 94
 .nil) 383 95 (.node .nil 384 96 .nil))) 385 97 (.node (.node (.node (.node .nil 386 98 .nil) 387 99 .nil) 388 100 (.node .nil 389 101 .nil)) 390 102 (.node (.node (.node .nil 391 104
 .nil) 392 105 .nil) 393 106 (.node .nil 394 107 .nil))))) 395 109 (.node (.node (.node (.node (.node (.node .nil 396 108 .nil) 397 128 .nil) 398 129 (.node .nil 399 130 .nil)) 400 126
 (.node (.node (.node .nil 401 127 .nil) 402 120 .nil) 403 80 (.node .nil 404 84 .nil))) 417 167 (.node (.node (.node (.node .nil 418 134 .nil) 419 136 .nil) 420 137 (.node .nil 421
 139 .nil)) 422 138 (.node (.node (.node .nil 423 103 .nil) 424 141 .nil) 425 142 (.node .nil 426 143 .nil)))) 427 144 (.node (.node (.node (.node (.node .nil 428 145 .nil) 429 146 .nil)
 430 147 (.node .nil 431 154 .nil)) 432 166 (.node (.node (.node .nil 439 172 .nil) 440 173 .nil) 441 174 (.node .nil 442 182 .nil))) 443 183 (.node (.node (.node (.node .nil 444 184
 .nil) 445 185 .nil) 446 193 (.node .nil 447 206 .nil)) 448 208 (.node (.node (.node .nil 449 209 .nil) 450 210 .nil) 451 226 (.node .nil 452 227 .nil)))))))
def tauT:NT:=(.node (.node (.node (.node (.node (.node (.node (.node (.node .nil 0 0 .nil) 1 1 .nil) 2 2 (.node (.node .nil 3 3 .nil) 4 4 .nil)) 5 5 (.node (.node (.node .nil 6
 6 .nil) 7 7 .nil) 8 8 (.node .nil 9 9 .nil))) 10 10 (.node (.node (.node (.node .nil 11 11 .nil) 12 12 .nil) 13 13 (.node .nil 14 14 .nil)) 15 15 (.node (.node (.node .nil 16 16 .nil)
 17 17 .nil) 18 18 (.node .nil 19 19 .nil)))) 20 20 (.node (.node (.node (.node (.node .nil 21 21 .nil) 25 26 .nil) 27 193 (.node .nil 28 207 .nil)) 30 58 (.node (.node (.node .nil 31
 86 .nil) 35 23 .nil) 37 242 (.node .nil 43 211 .nil))) 44 75 (.node (.node (.node (.node .nil 45 43 .nil) 48 138 .nil) 62 74 (.node .nil 79 73 .nil)) 82 198 (.node (.node (.node .nil
 83 199 .nil) 84 200 .nil) 85 201 (.node .nil 86 202 .nil))))) 87 203 (.node (.node (.node (.node (.node (.node .nil 88 204 .nil) 89 205 .nil) 102 152 (.node (.node .nil 103 299 .nil)
 105 159 .nil)) 108 226 (.node (.node (.node .nil 110 98 .nil) 112 261 .nil) 113 244 (.node .nil 114 251 .nil))) 115 252 (.node (.node (.node (.node .nil 116 253 .nil) 117 284 .nil)
 118 233 (.node .nil 120 102 .nil)) 121 301 (.node (.node (.node .nil 122 302 .nil) 123 303 .nil) 124 304 (.node .nil 125 305 .nil)))) 126 306 (.node (.node (.node (.node (.node .nil
 127 307 .nil) 128 308 .nil) 129 309 (.node .nil 130 310 .nil)) 131 311 (.node (.node (.node .nil 132 312 .nil) 133 185 .nil) 134 186 (.node .nil 135 187 .nil))) 136 188 (.node (.node
 (.node (.node .nil 137 243 .nil) 141 157 .nil) 149 220 (.node .nil 150 221 .nil)) 151 222 (.node (.node (.node .nil 152 237 .nil) 153 238 .nil) 154 239 (.node .nil 155 240 .nil))))))
 156 148 (.node (.node (.node (.node (.node (.node (.node .nil 157 241 .nil) 158 250 .nil) 159 297 (.node (.node .nil 161 268 .nil) 170 206 .nil)) 172 245 (.node (.node (.node .nil 173
 246 .nil) 174 247 .nil) 175 248 (.node .nil 176 249 .nil))) 177 262 (.node (.node (.node (.node .nil 178 263 .nil) 180 264 .nil) 181 265 (.node .nil 182 266 .nil)) 183 147 (.node (.node
 (.node .nil 184 267 .nil) 185 269 .nil) 186 270 (.node .nil 187 271 .nil)))) 188 272 (.node (.node (.node (.node (.node .nil 189 273 .nil) 190 274 .nil) 191 275 (.node .nil 192 276
 .nil)) 195 285 (.node (.node (.node .nil 196 286 .nil) 197 287 .nil) 198 288 (.node .nil 199 289 .nil))) 200 290 (.node (.node (.node (.node .nil 201 90 .nil) 202 298 .nil) 203 300
 (.node .nil 213 56 .nil)) 214 129 (.node (.node (.node .nil 215 167 .nil) 216 208 .nil) 217 209 (.node .nil 218 214 .nil))))) 219 215 (.node (.node (.node (.node (.node (.node .nil
 220 216 .nil) 221 217 .nil) 222 218 (.node .nil 223 227 .nil)) 224 228 (.node (.node (.node .nil 225 229 .nil) 226 230 .nil) 227 231 (.node .nil 228 213 .nil))) 229 254 (.node (.node
 (.node (.node .nil 230 255 .nil) 231 256 .nil) 232 257 (.node .nil 233 232 .nil)) 234 234 (.node (.node (.node .nil 235 235 .nil) 236 236 .nil) 237 277 (.node .nil 238 278 .nil))))
 239 279 (.node (.node (.node (.node (.node .nil 240 280 .nil) 241 281 .nil) 242 282 (.node .nil 243 283 .nil)) 244 258 (.node (.node (.node .nil 245 259 .nil) 246 260 .nil) 247 291
 (.node .nil 248 292 .nil))) 249 293 (.node (.node (.node (.node .nil 250 294 .nil) 251 295 .nil) 252 296 (.node .nil 287 118 .nil)) 372 166 (.node (.node (.node .nil 426 146 .nil) 428
 22 .nil) 429 24 (.node .nil 430 25 .nil))))))) 431 27 (.node (.node (.node (.node (.node (.node (.node (.node .nil 432 28 .nil) 433 29 .nil) 434 30 (.node (.node .nil 435 31 .nil) 436
 32 .nil)) 437 33 (.node (.node (.node .nil 438 34 .nil) 439 35 .nil) 440 36 (.node .nil 441 37 .nil))) 442 38 (.node (.node (.node (.node .nil 443 39 .nil) 444 40 .nil) 445 41 (.node
 .nil 446 42 .nil)) 447 44 (.node (.node (.node .nil 448 45 .nil) 449 46 .nil) 450 47 (.node .nil 451 48 .nil)))) 452 49 (.node (.node (.node (.node (.node .nil 453 50 .nil) 454 51 .nil)
 455 52 (.node .nil 456 53 .nil)) 457 54 (.node (.node (.node .nil 458 55 .nil) 459 57 .nil) 460 59 (.node .nil 461 60 .nil))) 462 61 (.node (.node (.node (.node .nil 463 62 .nil) 464
 63 .nil) 465 64 (.node .nil 466 65 .nil)) 467 66 (.node (.node (.node .nil 468 67 .nil) 469 68 .nil) 470 69 (.node .nil 471 70 .nil))))) 472 71 (.node (.node (.node (.node (.node (.node
 .nil 473 72 .nil) 474 76 .nil) 475 77 (.node (.node .nil 476 78 .nil) 477 79 .nil)) 478 80 (.node (.node (.node .nil 479 81 .nil) 480 82 .nil) 481 83 (.node .nil 482 84 .nil))) 483
 85 (.node (.node (.node (.node .nil 484 87 .nil) 485 88 .nil) 486 89 (.node .nil 487 91 .nil)) 488 92 (.node (.node (.node .nil 489 93 .nil) 490 94 .nil) 491 95 (.node .nil 492 96 .nil))))
 493 97 (.node (.node (.node (.node (.node .nil 494 99 .nil) 495 100 .nil) 496 101 (.node .nil 497 103 .nil)) 498 104 (.node (.node (.node .nil 499 105 .nil) 500 106 .nil) 501 107 (.node
 .nil 502 108 .nil))) 503 109 (.node (.node (.node (.node .nil 504 110 .nil) 505 111 .nil) 506 112 (.node .nil 507 113 .nil)) 508 114 (.node (.node (.node .nil 509 115 .nil) 510 116
 .nil) 511 117 (.node .nil 512 119 .nil)))))) 513 120 (.node (.node (.node (.node (.node (.node (.node .nil 514 121 .nil) 515 122 .nil) 516 123 (.node (.node .nil 517 124 .nil) 518 125
 .nil)) 519 126 (.node (.node (.node .nil 520 127 .nil) 521 128 .nil) 522 130 (.node .nil 523 131 .nil))) 524 132 (.node (.node (.node (.node .nil 525 133 .nil) 526 134 .nil) 527 135
 (.node .nil 528 136 .nil)) 529 137 (.node (.node (.node .nil 530 139 .nil) 531 140 .nil) 532 141 (.node .nil 533 142 .nil)))) 534 143 (.node (.node (.node (.node (.node .nil 535 144
 .nil) 536 145 .nil) 537 149 (.node .nil 538 150 .nil)) 539 151 (.node (.node (.node .nil 540 153 .nil) 541 154 .nil) 542 155 (.node .nil 543 156 .nil))) 544 158 (.node (.node (.node
 (.node .nil 545 160 .nil) 546 161 .nil) 547 162 (.node .nil 548 163 .nil)) 549 164 (.node (.node (.node .nil 550 165 .nil) 551 168 .nil) 552 169 (.node .nil 553 170 .nil))))) 554 171
 (.node (.node (.node (.node (.node (.node .nil 555 172 .nil) 556 173 .nil) 557 174 (.node .nil 558 175 .nil)) 559 176 (.node (.node (.node .nil 560 177 .nil) 561 178 .nil) 562 179 (.node
 .nil 563 180 .nil))) 564 181 (.node (.node (.node (.node .nil 565 182 .nil) 566 183 .nil) 567 184 (.node .nil 568 189 .nil)) 569 190 (.node (.node (.node .nil 570 191 .nil) 571 192
 .nil) 572 194 (.node .nil 573 195 .nil)))) 574 196 (.node (.node (.node (.node (.node .nil 575 197 .nil) 576 210 .nil) 577 212 (.node .nil 578 219 .nil)) 579 223 (.node (.node (.node
 .nil 580 224 .nil) 581 225 .nil) 582 313 (.node .nil 583 314 .nil))) 584 315 (.node (.node (.node (.node .nil 585 316 .nil) 586 317 .nil) 587 318 (.node .nil 588 319 .nil)) 589 320
 (.node (.node (.node .nil 590 321 .nil) 591 322 .nil) 592 323 (.node .nil 593 324 .nil))))))))
def gamT:NT:=(.node (.node (.node (.node .nil 0 1 .nil) 1 2 .nil) 2 4 (.node .nil 3 5 .nil)) 4 3 (.node (.node .nil 5 6 .nil) 6 7 (.node .nil 8 0 .nil)))
noncomputable def cx:Cx:=⟨Tryz.prog,phiT.get,tauT.get,gamT.get⟩
theorem Zeq:Qf cx 53 B.Rb:=Zj (by kernel_rfl) Tryz.func207 (by kernel_rfl)
theorem Zoj:Qf cx 63 B.Hk:=Zj (by kernel_rfl) Tryz.func140 (by kernel_rfl)
theorem Zbh:Qf cx 75 B.Vt:=Zj (by kernel_rfl) Tryz.func169 (by kernel_rfl)
theorem Zbg:Qf cx 76 B.Vs:=Zj (by kernel_rfl) Tryz.func170 (by kernel_rfl)
theorem S7:Qf cx 77 B.Yr:=Zj (by kernel_rfl) Tryz.func171 (by kernel_rfl)
theorem D8:Qf cx 91 B.Ql:=Zj (by kernel_rfl) Tryz.func150 (by kernel_rfl)
theorem F9:Qf cx 92 B.Km:=Zj (by kernel_rfl) Tryz.func151 (by kernel_rfl)
theorem Zbn:Qf cx 94 B.strings_HasPrefix:=Zj (by kernel_rfl) Tryz.func194 (by kernel_rfl)
theorem Zq3:Qf cx 95 B.M5:=Zj (by kernel_rfl) Tryz.func195 (by kernel_rfl)
theorem As:Qf cx 96 B.Jd:=Zj (by kernel_rfl) Tryz.func196 (by kernel_rfl)
theorem Zl3:Qf cx 97 B.strings_Cut:=Zj (by kernel_rfl) Tryz.func197 (by kernel_rfl)
theorem Te:Qf cx 98 B.strings_ContainsAny:=Zj (by kernel_rfl) Tryz.func198 (by kernel_rfl)
theorem Zly:Qf cx 99 B.Rz:=Zj (by kernel_rfl) Tryz.func199 (by kernel_rfl)
theorem Zov:Qf cx 100 B.Xz:=Zj (by kernel_rfl) Tryz.func200 (by kernel_rfl)
theorem D9:Qf cx 109 B.Q4:=Zj (by kernel_rfl) Tryz.func175 (by kernel_rfl)
theorem Zv4:Qf cx 110 B.Rc:=Zj (by kernel_rfl) Tryz.func191 (by kernel_rfl)
theorem Zok:Qf cx 112 B.Xv:=Zj (by kernel_rfl) Tryz.func216 (by kernel_rfl)
theorem Pu:Qf cx 113 B.K8:=Zj (by kernel_rfl) Tryz.func219 (by kernel_rfl)
theorem Zox:Qf cx 114 B.Rq:=Zj (by kernel_rfl) Tryz.func220 (by kernel_rfl)
theorem Zh4:Qf cx 115 B.Lk:=Zj (by kernel_rfl) Tryz.func221 (by kernel_rfl)
theorem Zl2:Qf cx 116 B.Wp:=Zj (by kernel_rfl) Tryz.func222 (by kernel_rfl)
theorem Zj2:Qf cx 119 B.Wl:=Zj (by kernel_rfl) Tryz.func228 (by kernel_rfl)
theorem Zcv:Qf cx 120 B.Jz:=Zj (by kernel_rfl) Tryz.func235 (by kernel_rfl)
theorem Td:Qf cx 121 B.Yu:=Zj (by kernel_rfl) Tryz.func236 (by kernel_rfl)
theorem Zq4:Qf cx 122 B.Co:=Zj (by kernel_rfl) Tryz.func229 (by kernel_rfl)
theorem I6:Qf cx 123 B.stringslite_HasPrefix:=Zj (by kernel_rfl) Tryz.func215 (by kernel_rfl)
theorem Zow:Qf cx 133 B.Hw:=Zj (by kernel_rfl) Tryz.func125 (by kernel_rfl)
theorem Zkf:Qf cx 136 B.Jq:=Zj (by kernel_rfl) Tryz.func164 (by kernel_rfl)
theorem Ay:Qf cx 137 B.Jw:=Zj (by kernel_rfl) Tryz.func163 (by kernel_rfl)
theorem Zoy:Qf cx 138 B.Rr:=Zj (by kernel_rfl) Tryz.func165 (by kernel_rfl)
theorem Zkg:Qf cx 139 B.Nd:=Zj (by kernel_rfl) Tryz.func192 (by kernel_rfl)
theorem Zeu:Qf cx 140 B.stringslite_Cut:=Zj (by kernel_rfl) Tryz.func217 (by kernel_rfl)
theorem Zcw:Qf cx 141 B.strings_IndexAny:=Zj (by kernel_rfl) Tryz.func218 (by kernel_rfl)
theorem Zbo:Qf cx 143 B.Kq:=Zj (by kernel_rfl) Tryz.func231 (by kernel_rfl)
theorem Cb:Qf cx 144 B.strings_shouldUseASCIISet:=Zj (by kernel_rfl) Tryz.func232 (by kernel_rfl)
theorem Py:Qf cx 145 B.strings_makeASCIISet:=Zj (by kernel_rfl) Tryz.func233 (by kernel_rfl)
theorem Ca:Qf cx 146 B.Ju:=Zj (by kernel_rfl) Tryz.func234 (by kernel_rfl)
theorem Ia:Qf cx 147 B.Q6:=Zj (by kernel_rfl) Tryz.func242 (by kernel_rfl)
theorem Zef:Qf cx 148 B.bytealg_Cutover:=Zj (by kernel_rfl) Tryz.func239 (by kernel_rfl)
theorem F8:Qf cx 295 B.Yh:=Zj (by kernel_rfl) Tryz.func5 (by kernel_rfl)
theorem Zcp:Qf cx 300 B.Ui:=Zj (by kernel_rfl) Tryz.func11 (by kernel_rfl)
theorem Zj0:Qf cx 301 B.Qz:=Zj (by kernel_rfl) Tryz.func23 (by kernel_rfl)
theorem Zjz:Qf cx 302 B.Xs:=Zj (by kernel_rfl) Tryz.func28 (by kernel_rfl)
theorem Zf4:Qf cx 303 B.Kb:=Zj (by kernel_rfl) Tryz.func26 (by kernel_rfl)
theorem Zq2:Qf cx 304 B.W9:=Zj (by kernel_rfl) Tryz.func29 (by kernel_rfl)
theorem Zer:Qf cx 305 B.Wb:=Zj (by kernel_rfl) Tryz.func30 (by kernel_rfl)
theorem Aq:Qf cx 306 B.Y7:=Zj (by kernel_rfl) Tryz.func22 (by kernel_rfl)
theorem Zj1:Qf cx 307 B.Xt:=Zj (by kernel_rfl) Tryz.func24 (by kernel_rfl)
theorem Ztr:Qf cx 308 B.Qv:=Zj (by kernel_rfl) Tryz.func14 (by kernel_rfl)
theorem I4:Qf cx 309 B.Ks:=Zj (by kernel_rfl) Tryz.func25 (by kernel_rfl)
theorem S4:Qf cx 310 B.Zr:=Zj (by kernel_rfl) Tryz.func18 (by kernel_rfl)
theorem Bk:Qf cx 311 B.Q7:=Zj (by kernel_rfl) Tryz.func27 (by kernel_rfl)
theorem Zco:Qf cx 312 B.Ja:=Zj (by kernel_rfl) Tryz.func31 (by kernel_rfl)
theorem Zbf:Qf cx 313 B.Yi:=Zj (by kernel_rfl) Tryz.func32 (by kernel_rfl)
theorem Zcn:Qf cx 314 B.Y6:=Zj (by kernel_rfl) Tryz.func33 (by kernel_rfl)
theorem Zot:Qf cx 316 B.Xw:=Zj (by kernel_rfl) Tryz.func21 (by kernel_rfl)
theorem Zeg:Qf cx 325 B.U6:=Zj (by kernel_rfl) Tryz.func61 (by kernel_rfl)
theorem Zka:Qf cx 326 B.Qs:=Zj (by kernel_rfl) Tryz.func89 (by kernel_rfl)
theorem Zhz:Qf cx 327 B.Lb:=Zj (by kernel_rfl) Tryz.func90 (by kernel_rfl)
theorem Zlv:Qf cx 328 B.Xi:=Zj (by kernel_rfl) Tryz.func91 (by kernel_rfl)
theorem Zke:Qf cx 329 B.Wn:=Zj (by kernel_rfl) Tryz.func92 (by kernel_rfl)
theorem Zol:Qf cx 330 B.Hl:=Zj (by kernel_rfl) Tryz.func36 (by kernel_rfl)
theorem Zom:Qf cx 331 B.Hm:=Zj (by kernel_rfl) Tryz.func37 (by kernel_rfl)
theorem Zon:Qf cx 332 B.Hn:=Zj (by kernel_rfl) Tryz.func38 (by kernel_rfl)
theorem Zoo:Qf cx 333 B.Ho:=Zj (by kernel_rfl) Tryz.func39 (by kernel_rfl)
theorem S8:Qf cx 334 B.Jp:=Zj (by kernel_rfl) Tryz.func40 (by kernel_rfl)
theorem Zop:Qf cx 335 B.Hp:=Zj (by kernel_rfl) Tryz.func41 (by kernel_rfl)
theorem Zoq:Qf cx 336 B.Hq:=Zj (by kernel_rfl) Tryz.func42 (by kernel_rfl)
theorem Zor:Qf cx 337 B.Hr:=Zj (by kernel_rfl) Tryz.func43 (by kernel_rfl)
theorem Zcs:Qf cx 338 B.K4:=Zj (by kernel_rfl) Tryz.func44 (by kernel_rfl)
theorem Zeo:Qf cx 339 B.Jr:=Zj (by kernel_rfl) Tryz.func45 (by kernel_rfl)
theorem Zcu:Qf cx 340 B.Y9:=Zj (by kernel_rfl) Tryz.func46 (by kernel_rfl)
theorem Zen:Qf cx 341 B.Wa:=Zj (by kernel_rfl) Tryz.func47 (by kernel_rfl)
theorem Ps:Qf cx 342 B.K5:=Zj (by kernel_rfl) Tryz.func48 (by kernel_rfl)
theorem Zlz:Qf cx 343 B.Kp:=Zj (by kernel_rfl) Tryz.func50 (by kernel_rfl)
theorem Zo0:Qf cx 344 B.Uw:=Zj (by kernel_rfl) Tryz.func49 (by kernel_rfl)
theorem Zj9:Qf cx 345 B.Na:=Zj (by kernel_rfl) Tryz.func51 (by kernel_rfl)
theorem Zos:Qf cx 346 B.Hs:=Zj (by kernel_rfl) Tryz.func52 (by kernel_rfl)
theorem Zcr:Qf cx 347 B.Kl:=Zj (by kernel_rfl) Tryz.func53 (by kernel_rfl)
theorem Zbi:Qf cx 348 B.Vu:=Zj (by kernel_rfl) Tryz.func54 (by kernel_rfl)
theorem B1:Qf cx 349 B.Q0:=Zj (by kernel_rfl) Tryz.func55 (by kernel_rfl)
theorem Zkc:Qf cx 350 B.Wm:=Zj (by kernel_rfl) Tryz.func56 (by kernel_rfl)
theorem Zh3:Qf cx 351 B.Li:=Zj (by kernel_rfl) Tryz.func57 (by kernel_rfl)
theorem Zem:Qf cx 352 B.U9:=Zj (by kernel_rfl) Tryz.func58 (by kernel_rfl)
theorem Zct:Qf cx 353 B.Ul:=Zj (by kernel_rfl) Tryz.func59 (by kernel_rfl)
theorem Zcq:Qf cx 354 B.Uj:=Zj (by kernel_rfl) Tryz.func87 (by kernel_rfl)
theorem Pr:Qf cx 355 B.Q8:=Zj (by kernel_rfl) Tryz.func88 (by kernel_rfl)
theorem Zek:Qf cx 356 B.U7:=Zj (by kernel_rfl) Tryz.func73 (by kernel_rfl)
theorem Zoh:Qf cx 357 B.Kc:=Zj (by kernel_rfl) Tryz.func86 (by kernel_rfl)
theorem Hj:Qf cx 358 B.Q2:=Zj (by kernel_rfl) Tryz.func93 (by kernel_rfl)
theorem Zeh:Qf cx 359 B.V1:=Zj (by kernel_rfl) Tryz.func70 (by kernel_rfl)
theorem S5:Qf cx 360 B.Jo:=Zj (by kernel_rfl) Tryz.func69 (by kernel_rfl)
theorem Zj3:Qf cx 362 B.Xx:=Zj (by kernel_rfl) Tryz.func78 (by kernel_rfl)
theorem Zj4:Qf cx 363 B.M6:=Zj (by kernel_rfl) Tryz.func79 (by kernel_rfl)
theorem Zj5:Qf cx 364 B.M7:=Zj (by kernel_rfl) Tryz.func81 (by kernel_rfl)
theorem Zj6:Qf cx 365 B.M8:=Zj (by kernel_rfl) Tryz.func83 (by kernel_rfl)
theorem Zj7:Qf cx 366 B.M9:=Zj (by kernel_rfl) Tryz.func85 (by kernel_rfl)
theorem Zel:Qf cx 375 B.U8:=Zj (by kernel_rfl) Tryz.func72 (by kernel_rfl)
theorem Aw:Qf cx 379 B.Va:=Zj (by kernel_rfl) Tryz.func131 (by kernel_rfl)
theorem Zbj:Qf cx 380 B.Vw:=Zj (by kernel_rfl) Tryz.func132 (by kernel_rfl)
theorem I5:Qf cx 381 B.J4:=Zj (by kernel_rfl) Tryz.func133 (by kernel_rfl)
theorem Pt:Qf cx 382 B.Zy:=Zj (by kernel_rfl) Tryz.func94 (by kernel_rfl)
theorem Zj8:Qf cx 383 B.Qc:=Zj (by kernel_rfl) Tryz.func95 (by kernel_rfl)
theorem Zf8:Qf cx 385 B.Vj:=Zj (by kernel_rfl) Tryz.func97 (by kernel_rfl)
theorem Av:Qf cx 386 B.Zx:=Zj (by kernel_rfl) Tryz.func98 (by kernel_rfl)
theorem Zoi:Qf cx 387 B.Hi:=Zj (by kernel_rfl) Tryz.func99 (by kernel_rfl)
theorem Zl0:Qf cx 388 B.Xl:=Zj (by kernel_rfl) Tryz.func100 (by kernel_rfl)
theorem At:Qf cx 389 B.Kz:=Zj (by kernel_rfl) Tryz.func101 (by kernel_rfl)
theorem D5:Qf cx 390 B.Jh:=Zj (by kernel_rfl) Tryz.func102 (by kernel_rfl)
theorem Zkd:Qf cx 391 B.Yp:=Zj (by kernel_rfl) Tryz.func104 (by kernel_rfl)
theorem Zou:Qf cx 392 B.Mu:=Zj (by kernel_rfl) Tryz.func105 (by kernel_rfl)
theorem Zl1:Qf cx 393 B.Xm:=Zj (by kernel_rfl) Tryz.func106 (by kernel_rfl)
theorem Zep:Qf cx 394 B.Kx:=Zj (by kernel_rfl) Tryz.func107 (by kernel_rfl)
theorem Az:Qf cx 395 B.Vc:=Zj (by kernel_rfl) Tryz.func109 (by kernel_rfl)
theorem Zei:Qf cx 397 B.Kg:=Zj (by kernel_rfl) Tryz.func128 (by kernel_rfl)
theorem Zej:Qf cx 398 B.Kh:=Zj (by kernel_rfl) Tryz.func129 (by kernel_rfl)
theorem I3:Qf cx 399 B.J3:=Zj (by kernel_rfl) Tryz.func130 (by kernel_rfl)
theorem Zlx:Qf cx 400 B.Xk:=Zj (by kernel_rfl) Tryz.func126 (by kernel_rfl)
theorem Zf5:Qf cx 401 B.Vh:=Zj (by kernel_rfl) Tryz.func127 (by kernel_rfl)
theorem Sy:Qf cx 402 B.J1:=Zj (by kernel_rfl) Tryz.func120 (by kernel_rfl)
theorem Zh0:Qf cx 404 B.Ld:=Zj (by kernel_rfl) Tryz.func84 (by kernel_rfl)
theorem S9:Qf cx 417 B.Ys:=Zj (by kernel_rfl) Tryz.func167 (by kernel_rfl)
theorem Zq5:Qf cx 418 B.Hy:=Zj (by kernel_rfl) Tryz.func134 (by kernel_rfl)
theorem Zoz:Qf cx 419 B.Rs:=Zj (by kernel_rfl) Tryz.func136 (by kernel_rfl)
theorem Zlw:Qf cx 420 B.Xj:=Zj (by kernel_rfl) Tryz.func137 (by kernel_rfl)
theorem Zh1:Qf cx 421 B.Lg:=Zj (by kernel_rfl) Tryz.func139 (by kernel_rfl)
theorem Ax:Qf cx 422 B.Vb:=Zj (by kernel_rfl) Tryz.func138 (by kernel_rfl)
theorem Au:Qf cx 423 B.K0:=Zj (by kernel_rfl) Tryz.func103 (by kernel_rfl)
theorem Zet:Qf cx 424 B.Wc:=Zj (by kernel_rfl) Tryz.func141 (by kernel_rfl)
theorem Tc:Qf cx 425 B.Yt:=Zj (by kernel_rfl) Tryz.func142 (by kernel_rfl)
theorem Zes:Qf cx 426 B.Yw:=Zj (by kernel_rfl) Tryz.func143 (by kernel_rfl)
theorem Zkb:Qf cx 427 B.Nc:=Zj (by kernel_rfl) Tryz.func144 (by kernel_rfl)
theorem Zh2:Qf cx 428 B.Lh:=Zj (by kernel_rfl) Tryz.func145 (by kernel_rfl)
theorem Zhx:Qf cx 429 B.X9:=Zj (by kernel_rfl) Tryz.func146 (by kernel_rfl)
theorem Zhy:Qf cx 430 B.La:=Zj (by kernel_rfl) Tryz.func147 (by kernel_rfl)
theorem S6:Qf cx 431 B.J2:=Zj (by kernel_rfl) Tryz.func154 (by kernel_rfl)
theorem B3:Qf cx 432 B.Ka:=Zj (by kernel_rfl) Tryz.func166 (by kernel_rfl)
theorem Zf6:Qf cx 439 B.Yk:=Zj (by kernel_rfl) Tryz.func172 (by kernel_rfl)
theorem Ar:Qf cx 440 B.Ky:=Zj (by kernel_rfl) Tryz.func173 (by kernel_rfl)
theorem Zf7:Qf cx 441 B.Xa:=Zj (by kernel_rfl) Tryz.func174 (by kernel_rfl)
theorem Zh5:Qf cx 442 B.Ea:=Zj (by kernel_rfl) Tryz.func182 (by kernel_rfl)
theorem Zbm:Qf cx 443 B.L9:=Zj (by kernel_rfl) Tryz.func183 (by kernel_rfl)
theorem Pw:Qf cx 444 B.Ws:=Zj (by kernel_rfl) Tryz.func184 (by kernel_rfl)
theorem A0:Qf cx 445 B.Vd:=Zj (by kernel_rfl) Tryz.func185 (by kernel_rfl)
theorem Pv:Qf cx 446 B.Kf:=Zj (by kernel_rfl) Tryz.func193 (by kernel_rfl)
theorem Zbl:Qf cx 447 B.L8:=Zj (by kernel_rfl) Tryz.func206 (by kernel_rfl)
theorem Zbk:Qf cx 448 B.L7:=Zj (by kernel_rfl) Tryz.func208 (by kernel_rfl)
theorem Px:Qf cx 449 B.Ya:=Zj (by kernel_rfl) Tryz.func209 (by kernel_rfl)
theorem B2:Qf cx 450 B.J9:=Zj (by kernel_rfl) Tryz.func210 (by kernel_rfl)
theorem D6:Qf cx 451 B.Yx:=Zj (by kernel_rfl) Tryz.func226 (by kernel_rfl)
theorem D7:Qf cx 452 B.Qk:=Zj (by kernel_rfl) Tryz.func227 (by kernel_rfl)
def fnT:FT:=(.node (.node (.node (.node (.node (.node (.node (.node .nil 53 B.Rb .nil) 63 B.Hk .nil) 75 B.Vt (.node .nil 76 B.Vs
 .nil)) 77 B.Yr (.node (.node (.node .nil 91 B.Ql .nil) 92 B.Km .nil) 94 B.strings_HasPrefix (.node .nil 95 B.M5 .nil)))
 96 B.Jd (.node (.node (.node (.node .nil 97 B.strings_Cut .nil) 98 B.strings_ContainsAny .nil) 99 B.Rz (.node .nil 100 B.Xz .nil)) 109 B.Q4
 (.node (.node .nil 110 B.Rc .nil) 112 B.Xv (.node .nil 113 B.K8 .nil)))) 114 B.Rq (.node (.node (.node (.node (.node .nil 115 B.Lk
 .nil) 116 B.Wp .nil) 119 B.Wl (.node .nil 120 B.Jz .nil)) 121 B.Yu (.node (.node (.node .nil 122 B.Co .nil) 123 B.stringslite_HasPrefix
 .nil) 133 B.Hw (.node .nil 136 B.Jq .nil))) 137 B.Jw (.node (.node (.node (.node .nil 138 B.Rr .nil) 139 B.Nd .nil) 140 B.stringslite_Cut
 (.node .nil 141 B.strings_IndexAny .nil)) 143 B.Kq (.node (.node .nil 144 B.strings_shouldUseASCIISet .nil) 145 B.strings_makeASCIISet (.node .nil 146 B.Ju
 .nil))))) 147 B.Q6 (.node (.node (.node (.node (.node (.node .nil 148 B.bytealg_Cutover .nil) 295 B.Yh .nil) 300 B.Ui (.node .nil
 301 B.Qz .nil)) 302 B.Xs (.node (.node (.node .nil 303 B.Kb .nil) 304 B.W9 .nil) 305 B.Wb (.node .nil 306 B.Y7 .nil)))
 307 B.Xt (.node (.node (.node (.node .nil 308 B.Qv .nil) 309 B.Ks .nil) 310 B.Zr (.node .nil 311 B.Q7 .nil))
 312 B.Ja (.node (.node .nil 313 B.Yi .nil) 314 B.Y6 (.node .nil 316 B.Xw .nil)))) 325 B.U6 (.node (.node (.node (.node
 (.node .nil 326 B.Qs .nil) 327 B.Lb .nil) 328 B.Xi (.node .nil 329 B.Wn .nil)) 330 B.Hl (.node (.node (.node .nil 331 B.Hm .nil)
 332 B.Hn .nil) 333 B.Ho (.node .nil 334 B.Jp .nil))) 335 B.Hp (.node (.node (.node (.node .nil 336 B.Hq .nil) 337 B.Hr .nil)
 338 B.K4 (.node .nil 339 B.Jr .nil)) 340 B.Y9 (.node (.node .nil 341 B.Wa .nil) 342 B.K5 (.node .nil 343 B.Kp
 .nil)))))) 344 B.Uw (.node (.node (.node (.node (.node (.node (.node .nil 345 B.Na .nil) 346 B.Hs .nil) 347 B.Kl (.node .nil 348 B.Vu
 .nil)) 349 B.Q0 (.node (.node (.node .nil 350 B.Wm .nil) 351 B.Li .nil) 352 B.U9 (.node .nil 353 B.Ul .nil))) 354
 B.Uj (.node (.node (.node (.node .nil 355 B.Q8 .nil) 356 B.U7 .nil) 357 B.Kc (.node .nil 358 B.Q2 .nil))
 359 B.V1 (.node (.node .nil 360 B.Jo .nil) 362 B.Xx (.node .nil 363 B.M6 .nil)))) 364 B.M7 (.node (.node (.node (.node (.node
 .nil 365 B.M8 .nil) 366 B.M9 .nil) 375 B.U8 (.node .nil 379 B.Va .nil)) 380 B.Vw (.node (.node (.node .nil 381 B.J4
 .nil) 382 B.Zy .nil) 383 B.Qc (.node .nil 385 B.Vj .nil))) 386 B.Zx (.node (.node (.node (.node .nil 387 B.Hi .nil) 388
 B.Xl .nil) 389 B.Kz (.node .nil 390 B.Jh .nil)) 391 B.Yp (.node (.node .nil 392 B.Mu .nil) 393 B.Xm (.node
 .nil 394 B.Kx .nil))))) 395 B.Vc (.node (.node (.node (.node (.node (.node .nil 397 B.Kg .nil) 398 B.Kh .nil) 399 B.J3
 (.node .nil 400 B.Xk .nil)) 401 B.Vh (.node (.node (.node .nil 402 B.J1 .nil) 404 B.Ld .nil) 417 B.Ys (.node .nil 418
 B.Hy .nil))) 419 B.Rs (.node (.node (.node (.node .nil 420 B.Xj .nil) 421 B.Lg .nil) 422 B.Vb (.node .nil 423 B.K0
 .nil)) 424 B.Wc (.node (.node .nil 425 B.Yt .nil) 426 B.Yw (.node .nil 427 B.Nc .nil)))) 428 B.Lh (.node (.node (.node
 (.node (.node .nil 429 B.X9 .nil) 430 B.La .nil) 431 B.J2 (.node .nil 432 B.Ka .nil)) 439 B.Yk (.node (.node
 (.node .nil 440 B.Ky .nil) 441 B.Xa .nil) 442 B.Ea (.node .nil 443 B.L9 .nil))) 444 B.Ws (.node (.node (.node
 (.node .nil 445 B.Vd .nil) 446 B.Kf .nil) 447 B.L8 (.node .nil 448 B.L7 .nil)) 449 B.Ya (.node (.node
 .nil 450 B.J9 .nil) 451 B.Yx (.node .nil 452 B.Qk .nil)))))))
theorem Zaal:fnT.All (Qf cx):=⟨⟨⟨⟨⟨⟨⟨⟨trivial,Zeq,trivial⟩,Zoj,trivial⟩,Zbh,⟨trivial,Zbg,trivial⟩⟩,S7,
 ⟨⟨⟨trivial,D8,trivial⟩,F9,trivial⟩,Zbn,⟨trivial,Zq3,trivial⟩⟩⟩,As,⟨⟨⟨⟨trivial,Zl3,
 trivial⟩,Te,trivial⟩,Zly,⟨trivial,Zov,trivial⟩⟩,D9,⟨⟨trivial,Zv4,trivial⟩,Zok,⟨trivial,Pu,
 trivial⟩⟩⟩⟩,Zox,⟨⟨⟨⟨⟨trivial,Zh4,trivial⟩,Zl2,trivial⟩,Zj2,⟨trivial,Zcv,trivial⟩⟩,Td,⟨⟨⟨trivial,
 Zq4,trivial⟩,I6,trivial⟩,Zow,⟨trivial,Zkf,trivial⟩⟩⟩,Ay,⟨⟨⟨⟨trivial,Zoy,trivial⟩,Zkg,
 trivial⟩,Zeu,⟨trivial,Zcw,trivial⟩⟩,Zbo,⟨⟨trivial,Cb,trivial⟩,Py,⟨trivial,Ca,
 trivial⟩⟩⟩⟩⟩,Ia,⟨⟨⟨⟨⟨⟨trivial,Zef,trivial⟩,F8,trivial⟩,Zcp,⟨trivial,Zj0,trivial⟩⟩,Zjz,
 ⟨⟨⟨trivial,Zf4,trivial⟩,Zq2,trivial⟩,Zer,⟨trivial,Aq,trivial⟩⟩⟩,Zj1,⟨⟨⟨⟨trivial,Ztr,trivial⟩,I4,
 trivial⟩,S4,⟨trivial,Bk,trivial⟩⟩,Zco,⟨⟨trivial,Zbf,trivial⟩,Zcn,⟨trivial,Zot,
 trivial⟩⟩⟩⟩,Zeg,⟨⟨⟨⟨⟨trivial,Zka,trivial⟩,Zhz,trivial⟩,Zlv,⟨trivial,Zke,trivial⟩⟩,Zol,⟨⟨⟨trivial,Zom,
 trivial⟩,Zon,trivial⟩,Zoo,⟨trivial,S8,trivial⟩⟩⟩,Zop,⟨⟨⟨⟨trivial,Zoq,trivial⟩,Zor,trivial⟩,Zcs,
 ⟨trivial,Zeo,trivial⟩⟩,Zcu,⟨⟨trivial,Zen,trivial⟩,Ps,⟨trivial,Zlz,trivial⟩⟩⟩⟩⟩⟩,Zo0,⟨⟨⟨⟨⟨⟨⟨trivial,
 Zj9,trivial⟩,Zos,trivial⟩,Zcr,⟨trivial,Zbi,trivial⟩⟩,B1,⟨⟨⟨trivial,Zkc,trivial⟩,Zh3,
 trivial⟩,Zem,⟨trivial,Zct,trivial⟩⟩⟩,Zcq,⟨⟨⟨⟨trivial,Pr,trivial⟩,Zek,trivial⟩,Zoh,
 ⟨trivial,Hj,trivial⟩⟩,Zeh,⟨⟨trivial,S5,trivial⟩,Zj3,⟨trivial,Zj4,trivial⟩⟩⟩⟩,Zj5,
 ⟨⟨⟨⟨⟨trivial,Zj6,trivial⟩,Zj7,trivial⟩,Zel,⟨trivial,Aw,trivial⟩⟩,Zbj,⟨⟨⟨trivial,I5,
 trivial⟩,Pt,trivial⟩,Zj8,⟨trivial,Zf8,trivial⟩⟩⟩,Av,⟨⟨⟨⟨trivial,Zoi,trivial⟩,Zl0,trivial⟩,
 At,⟨trivial,D5,trivial⟩⟩,Zkd,⟨⟨trivial,Zou,trivial⟩,Zl1,⟨trivial,Zep,trivial⟩⟩⟩⟩⟩,
 Az,⟨⟨⟨⟨⟨⟨trivial,Zei,trivial⟩,Zej,trivial⟩,I3,⟨trivial,Zlx,trivial⟩⟩,Zf5,⟨⟨⟨trivial,
 Sy,trivial⟩,Zh0,trivial⟩,S9,⟨trivial,Zq5,trivial⟩⟩⟩,Zoz,⟨⟨⟨⟨trivial,Zlw,trivial⟩,Zh1,
 trivial⟩,Ax,⟨trivial,Au,trivial⟩⟩,Zet,⟨⟨trivial,Tc,trivial⟩,Zes,⟨trivial,Zkb,
 trivial⟩⟩⟩⟩,Zh2,⟨⟨⟨⟨⟨trivial,Zhx,trivial⟩,Zhy,trivial⟩,S6,⟨trivial,B3,trivial⟩⟩,Zf6,
 ⟨⟨⟨trivial,Ar,trivial⟩,Zf7,trivial⟩,Zh5,⟨trivial,Zbm,trivial⟩⟩⟩,Pw,⟨⟨⟨⟨trivial,A0,
 trivial⟩,Pv,trivial⟩,Zbl,⟨trivial,Zbk,trivial⟩⟩,Px,⟨⟨trivial,B2,trivial⟩,D6,
 ⟨trivial,D7,trivial⟩⟩⟩⟩⟩⟩⟩
def enT:Nat→Option Entry:=fun k=>if k=384 then some B.Vn else if k=396 then some B.Vo else if k=403 then some B.K1 else if k=132 then some B.Uo else if k=142 then some B.V6 else if k=84 then some B.V5 else if k=118 then some B.W5 else none
def tab:Tab:=⟨fnT.get,enT⟩
theorem Zbb:B.B9 tab:=⟨rfl⟩
theorem Zbc:B.Fa tab:=⟨rfl⟩
theorem Pk:B.Ef tab:=⟨rfl⟩
theorem Zf0:B.C3 tab:=⟨rfl⟩
theorem Sw:B.Nn tab:=⟨rfl⟩
theorem Su:B.Nl tab:=⟨rfl⟩
theorem Zfm:B.Ti tab:=⟨rfl⟩
theorem De:B.Up tab:=⟨rfl,rfl⟩
theorem Pc:B.Md tab:=⟨rfl,rfl⟩
theorem Zfo:B.Cr tab:=⟨rfl,rfl⟩
theorem Zfp:B.Cs tab:=⟨rfl,rfl⟩
theorem Za1:B.Gb tab:=⟨rfl,rfl⟩
theorem Gu:B.Y5 tab:=⟨rfl,rfl⟩
theorem Dl:B.Ly tab:=⟨rfl,rfl⟩
theorem Dm:B.Lz tab:=⟨rfl,rfl⟩
theorem Bx:B.Ru tab:=⟨rfl,rfl⟩
theorem Za4:B.Ge tab:=⟨rfl,rfl⟩
theorem Zji:B.Oo tab:=⟨rfl,rfl⟩
theorem Zjj:B.Oq tab:=⟨rfl,rfl⟩
theorem Zjk:B.Ot tab:=⟨rfl,rfl⟩
theorem Zjl:B.Ou tab:=⟨rfl,rfl⟩
theorem Zjm:B.Ov tab:=⟨rfl,rfl⟩
theorem Zjn:B.Ow tab:=⟨rfl,rfl⟩
theorem Zjo:B.Ox tab:=⟨rfl,rfl⟩
theorem N9:B.X7 tab:=⟨rfl,rfl⟩
theorem Am:B.Gp tab:=⟨rfl,rfl⟩
theorem Zjp:B.Oy tab:=⟨rfl,rfl,N9⟩
theorem Be:B.Mz tab:=⟨rfl,rfl⟩
theorem Iv:B.Gf tab:=⟨rfl,rfl⟩
theorem Pe:B.Mf tab:=⟨rfl,rfl⟩
theorem Is:B.Lm tab:=⟨rfl,rfl⟩
theorem Zlt:B.Tl tab:=⟨rfl,rfl⟩
theorem Zjt:B.O2 tab:=⟨rfl,rfl⟩
theorem Iz:B.Gl tab:=⟨rfl,rfl⟩
theorem Zd4:B.E9 tab:=⟨rfl,rfl⟩
theorem I0:B.Lr tab:=⟨rfl,rfl⟩
theorem Zfx:B.C1 tab:=⟨rfl,rfl⟩
theorem Zd5:B.Da tab:=⟨rfl,rfl⟩
theorem Zfr:B.Cu tab:=⟨rfl,rfl⟩
theorem Zfs:B.Cv tab:=⟨rfl,rfl,Pk⟩
theorem Zft:B.Cw tab:=⟨rfl,rfl,Zf0⟩
theorem Zd2:B.E7 tab:=⟨rfl,rfl⟩
theorem Zhq:B.Ft tab:=⟨rfl,rfl⟩
theorem F3:B.Gn tab:=⟨rfl,rfl⟩
theorem Pg:B.Mi tab:=⟨rfl,rfl⟩
theorem So:B.Nj tab:=⟨rfl,rfl⟩
theorem Zck:B.He tab:=⟨rfl,rfl⟩
theorem Pd:B.Me tab:=⟨rfl,rfl⟩
theorem Zcl:B.Hf tab:=⟨rfl,rfl⟩
theorem Zd8:B.P8 tab:=⟨rfl,rfl⟩
theorem F4:B.Gq tab:=⟨rfl,rfl⟩
theorem Iy:B.Lq tab:=⟨rfl,rfl⟩
theorem Za8:B.B8 tab:=⟨rfl,rfl⟩
theorem Sq:B.Dh tab:=⟨rfl,rfl⟩
theorem Sp:B.Dg tab:=⟨rfl,rfl⟩
theorem F5:B.Xq tab:=⟨rfl,rfl⟩
theorem Gt:B.Wi tab:=⟨rfl,rfl⟩
theorem Er:B.L1 tab:=⟨rfl,rfl⟩
theorem Es:B.L2 tab:=⟨rfl,rfl⟩
theorem B0:B.Rv tab:=⟨rfl,rfl⟩
theorem Zbd:B.Fb tab:=⟨rfl,rfl,Sw⟩
theorem Zjr:B.O0 tab:=⟨rfl,rfl⟩
theorem Zd7:B.Dc tab:=⟨rfl,rfl⟩
theorem Zht:B.H6 tab:=⟨rfl,rfl⟩
theorem Zg1:B.Ii tab:=⟨rfl,rfl⟩
theorem Bg:B.Wv tab:=⟨rfl,rfl⟩
theorem Ez:B.L4 tab:=⟨rfl,rfl⟩
theorem F6:B.Xr tab:=⟨rfl,rfl⟩
theorem Ey:B.Yb tab:=⟨rfl,rfl⟩
theorem Et:B.Uq tab:=⟨rfl,rfl⟩
theorem I1:B.Uy tab:=⟨rfl,rfl,Et⟩
theorem Ew:B.Ua tab:=⟨rfl,rfl,Zfm⟩
theorem Zfz:B.C2 tab:=⟨rfl,rfl⟩
theorem Zls:B.Tj tab:=⟨rfl,rfl⟩
theorem Bh:B.Ww tab:=⟨rfl,rfl⟩
theorem Za0:B.B6 tab:=⟨rfl,rfl⟩
theorem Zfn:B.Cq tab:=⟨rfl,rfl,Za1⟩
theorem Ae:B.Xn tab:=⟨rfl,rfl,Dl,Dm,Bx⟩
theorem Za3:B.Gc tab:=⟨rfl,rfl,Za4⟩
theorem Ag:B.Ri tab:=⟨rfl,rfl,Pe⟩
theorem Ir:B.Ll tab:=⟨rfl,rfl,Is⟩
theorem Q9:B.Qr tab:=⟨rfl,rfl,Zlt,Iv⟩
theorem Jv:B.Jj tab:=⟨rfl,rfl,Zjt,Am⟩
theorem D4:B.U5 tab:=⟨rfl,rfl,F3⟩
theorem Bz:B.W6 tab:=⟨rfl,rfl,Iy⟩
theorem Sr:B.Di tab:=⟨rfl,rfl,Za8,Sq,Sp⟩
theorem D3:B.U4 tab:=⟨rfl,rfl,Er,Es⟩
theorem Ss:B.Nk tab:=⟨rfl,rfl,B0⟩
theorem Zhu:B.Fw tab:=⟨rfl,rfl,Zbd⟩
theorem Pj:B.Ee tab:=⟨rfl,rfl,Zg1⟩
theorem F2:B.Xp tab:=⟨rfl,rfl,Et,I1⟩
theorem Eu:B.J5 tab:=⟨rfl,rfl,Ew⟩
theorem Zjs:B.O1 tab:=⟨rfl,rfl,Zfz⟩
theorem Zfq:B.Ct tab:=⟨rfl,rfl,Zls⟩
theorem Sv:B.V7 tab:=⟨rfl,rfl,Su,Bh,Za0⟩
theorem Rx:B.Ux tab:=⟨rfl,rfl,Za3⟩
theorem Fz:B.Ye tab:=⟨rfl,rfl,Rx,Dl,Dm⟩
theorem Za2:B.Lx tab:=⟨rfl,rfl,Ir⟩
theorem Ah:B.Rj tab:=⟨rfl,rfl,Q9,Jv⟩
theorem Za7:B.Gi tab:=⟨rfl,rfl,Q9,Jv⟩
theorem Za6:B.Gh tab:=⟨rfl,rfl,Q9,Jv⟩
theorem F1:B.Xo tab:=⟨rfl,rfl,Q9,Jv⟩
theorem Y8:B.Yf tab:=⟨rfl,rfl,Iz,Pg,So,Bz⟩
theorem Ph:B.Mj tab:=⟨rfl,rfl,Y8⟩
theorem Zba:B.Gm tab:=⟨rfl,rfl,Y8⟩
theorem Dp:B.L3 tab:=⟨rfl,rfl,Y8⟩
theorem Zd0:B.E5 tab:=⟨rfl,rfl,Y8⟩
theorem Pn:B.Mm tab:=⟨rfl,rfl,F5,D3⟩
theorem Al:B.Du tab:=⟨rfl,rfl,F2,Zjr,Zd7,Zht,Zg1⟩
theorem Zfy:B.Mk tab:=⟨rfl,rfl,Eu,Zjs,Bg⟩
theorem Zjh:B.On tab:=⟨rfl,rfl,Zfq⟩
theorem An:B.Rm tab:=⟨rfl,rfl,Sv,Ez,F6,Ey⟩
theorem By:B.Vq tab:=⟨rfl,rfl,Ae,Fz⟩
theorem Za9:B.Gj tab:=⟨rfl,rfl,Y8,Iz⟩
theorem Sc:B.H4 tab:=⟨rfl,rfl,Zd4,Ph⟩
theorem Hh:B.Mh tab:=⟨rfl,rfl,Zba,I0⟩
theorem Ak:B.Dt tab:=⟨rfl,rfl,Dp,Zfx⟩
theorem Sd:B.H5 tab:=⟨rfl,rfl,Dp,Zd5⟩
theorem F0:B.Ed tab:=⟨rfl,rfl,Y8,Zd2,Zhq⟩
theorem It:B.Ha tab:=⟨rfl,rfl,Zd8,Sr,F4,Pn⟩
theorem Zjq:B.Oz tab:=⟨rfl,rfl,Zfy,Pj⟩
theorem Zb0:B.B7 tab:=⟨rfl,rfl,Zjh⟩
theorem I2:B.Ls tab:=⟨rfl,rfl,An⟩
theorem Zhs:B.Fv tab:=⟨rfl,rfl,Al⟩
theorem Zfw:B.C0 tab:=⟨rfl,rfl,Za9,Sc⟩
theorem Ix:B.Gk tab:=⟨rfl,rfl,Hh,Ak⟩
theorem Zd6:B.Db tab:=⟨rfl,rfl,Hh,Sd⟩
theorem Sb:B.H0 tab:=⟨rfl,rfl,F0,D4⟩
theorem Bf:B.M0 tab:=⟨rfl,rfl,Y8,Hh⟩
theorem Pm:B.Ml tab:=⟨rfl,rfl,It⟩
theorem Zd1:B.E6 tab:=⟨rfl,rfl,Sb,Zck,Be,Pd,Zcl⟩
theorem Zd3:B.E8 tab:=⟨rfl,rfl,Zjq⟩
theorem Sm:B.Nh tab:=⟨rfl,rfl,Ss,Zb0,Gt⟩
theorem Sk:B.Ng tab:=⟨rfl,rfl,Zhu,Zb0,Gt⟩
theorem Iu:B.Lo tab:=⟨rfl,rfl,I2,Zhs,Al⟩
theorem W8:B.Wh tab:=⟨rfl,rfl,Sb,Be⟩
theorem Iw:B.Lp tab:=⟨rfl,rfl,Q9,Iv,W8,Zbb,Bf,N9,Jv⟩
theorem Sn:B.Ni tab:=⟨rfl,rfl,W8,Sc⟩
theorem Dn:B.L0 tab:=⟨rfl,rfl,Zd0,Zd1,Jv⟩
theorem Zhr:B.Fu tab:=⟨rfl,rfl,W8⟩
theorem Zfu:B.Cy tab:=⟨rfl,rfl,Zd3⟩
theorem Zfv:B.Cz tab:=⟨rfl,rfl,W8⟩
theorem Zjg:B.Om tab:=⟨rfl,rfl,Sm,Sk,Iu⟩
theorem Zjf:B.Ol tab:=⟨rfl,rfl,F0,Bf,Zhr⟩
theorem Af:B.Ds tab:=⟨rfl,rfl,F0,Zfr,Zfs,Zft,Zfu,Zfv⟩
theorem Pf:B.Mg tab:=⟨rfl,rfl,W8,Zjg,Sd,Ak⟩
theorem Aj:B.Rl tab:=⟨rfl,rfl,Q9,Zjf,N9,Jv⟩
theorem Za5:B.Gg tab:=⟨rfl,rfl,Q9,Af,Dn⟩
theorem Ai:B.Rk tab:=⟨rfl,rfl,Q9,Af,Ix,Pm,Zbc,Dn⟩
theorem Ep:B.V9 tab:=⟨rfl,rfl,Pf⟩
theorem D2:B.U3 tab:=⟨rfl,rfl,Ep⟩
theorem D0:B.Qq tab:=⟨rfl,rfl,Zji,Zjj,Zjk,Zjl,Iw,Zjm,Zjn,Zjo,Ah,Za7,Aj,Za6,F1,N9,Am,Zfw,Zjp,Ag,Sn,D2,Ix,Zd6,Za5,Ai⟩
theorem Zcj:B.Hd tab:=⟨rfl,rfl,D0⟩
theorem Ac:B.Rg tab:=⟨rfl,rfl,D0⟩
theorem Sj:B.Nf tab:=⟨rfl,rfl,D0,W8⟩
theorem Ab:B.Rf tab:=⟨rfl,rfl,D0,Gu,Za2⟩
theorem Ad:B.Rh tab:=⟨rfl,rfl,Pc,Zfn,Zfo,Zfp,Ac,Sj,Ab⟩
theorem Bc:B.Wu tab:=⟨rfl,rfl,Ad,By,Rx,Zcj,De⟩
theorem Zw2 (ok384:Vp Lt cx 384 B.Vn) (ok396:Vp Lt cx 396 B.Vo) (ok403:Vp Lt cx 403 B.K1) (ok132:Vp Lt cx 132 B.Uo) (ok142:Vp Lt cx 142 B.V6) (ok84:Vp Lt cx 84 B.V5) (ok118:Vp Lt cx 118 B.W5):Zdd Lt cx tab:=Zzf Zaal (fun f F h=>by
 simp only[enT]at h
 by_cases e384:f=384
 ·subst e384;simp only[if_true,Option.some.injEq]at h;subst h;exact ok384
 rw[if_neg e384]at h
 by_cases e396:f=396
 ·subst e396;simp only[if_true,Option.some.injEq]at h;subst h;exact ok396
 rw[if_neg e396]at h
 by_cases e403:f=403
 ·subst e403;simp only[if_true,Option.some.injEq]at h;subst h;exact ok403
 rw[if_neg e403]at h
 by_cases e132:f=132
 ·subst e132;simp only[if_true,Option.some.injEq]at h;subst h;exact ok132
 rw[if_neg e132]at h
 by_cases e142:f=142
 ·subst e142;simp only[if_true,Option.some.injEq]at h;subst h;exact ok142
 rw[if_neg e142]at h
 by_cases e84:f=84
 ·subst e84;simp only[if_true,Option.some.injEq]at h;subst h;exact ok84
 rw[if_neg e84]at h
 by_cases e118:f=118
 ·subst e118;simp only[if_true,Option.some.injEq]at h;subst h;exact ok118
 rw[if_neg e118]at h
 cases h)
end Go.Ev.LogicOrders

/- DERIVED: THE SHELF's CONTRACTS AT THIS DUMP, IN PLAIN WORDS (tools/lay-plain.mjs out of 'TryzShelf.lean', which tools/lay-shelf.mjs wrote): THE SAME DECLARATIONS UNDER THE SAME NAMES: 'import', 'namespace', 'open', 'def', 'theorem' AND NOTHING ELSE: no command of the shelf's: FOR A HAND-IN. Each laying: the table of numbers ('.._ren') and one theorem, a field a fact of the dump's own or the kernel's comparison; each contract: ONE APPLICATION. -/
namespace Go.Proofs
open Go.Shelf
def Tryz.Zg6:Go.Shelf.Ren:=⟨fun | 158=>108 | 165=>148 | 166=>149 | 167=>150 | 169=>151 | 230=>152 | 203=>153 | 240=>175 | 241=>176 | 197=>177 | 118=>178 | 168=>179 | 270=>180 | 262=>181 | 276=>201 | 277=>202 | 260=>203 | 242=>204 | 313=>205 | 278=>223 | 274=>224 | 275=>225 | n=>n,fun | 9=>9 | 4=>4 | 3=>3 | 5=>5 | 72=>200 | 0=>0 | 76=>204 | 75=>203 | 107=>209 | 70=>198 | 20=>20 | 37=>23 | 127=>226 | 21=>21 | 105=>227 | 164=>251 | 162=>257 | 203=>255 | 119=>277 | 46=>73 | 139=>280 | 138=>279 | 51=>152 | 160=>281 | 208=>294 | 206=>292 | 80=>207 | n=>n,fun | 13=>2 | 3=>4 | 4=>5 | n=>n⟩
theorem Tryz.Zaa1:Go.Proofs.Lays.n158 Tryz.prog Tryz.Zg6:={
 mixed:=by kernel_rfl
 f118:=Tryz.func178.trans (congrArg some (by kernel_rfl))
 f158:=Tryz.func108.trans (congrArg some (by kernel_rfl))
 f165:=Tryz.func148.trans (congrArg some (by kernel_rfl))
 f166:=Tryz.func149.trans (congrArg some (by kernel_rfl))
 f167:=Tryz.func150.trans (congrArg some (by kernel_rfl))
 f168:=Tryz.func179.trans (congrArg some (by kernel_rfl))
 f169:=Tryz.func151.trans (congrArg some (by kernel_rfl))
 f197:=Tryz.func177.trans (congrArg some (by kernel_rfl))
 f203:=Tryz.func153.trans (congrArg some (by kernel_rfl))
 f230:=Tryz.func152.trans (congrArg some (by kernel_rfl))
 f240:=Tryz.func175.trans (congrArg some (by kernel_rfl))
 f241:=Tryz.func176.trans (congrArg some (by kernel_rfl))
 f242:=Tryz.func204.trans (congrArg some (by kernel_rfl))
 f260:=Tryz.func203.trans (congrArg some (by kernel_rfl))
 f262:=Tryz.func181.trans (congrArg some (by kernel_rfl))
 f270:=Tryz.func180.trans (congrArg some (by kernel_rfl))
 f274:=Tryz.func224.trans (congrArg some (by kernel_rfl))
 f275:=Tryz.func225.trans (congrArg some (by kernel_rfl))
 f276:=Tryz.func201.trans (congrArg some (by kernel_rfl))
 f277:=Tryz.func202.trans (congrArg some (by kernel_rfl))
 f278:=Tryz.func223.trans (congrArg some (by kernel_rfl))
 f313:=Tryz.func205.trans (congrArg some (by kernel_rfl))
 t0:=Tryz.underlying0
 a0:=Tryz.isAgg0
 z0:=Tryz.sizeOf0
 v0:=Tryz.zeroValue0
 t3:=Tryz.underlying3
 a3:=Tryz.isAgg3
 z3:=Tryz.sizeOf3
 v3:=Tryz.zeroValue3
 t4:=Tryz.underlying4
 a4:=Tryz.isAgg4
 z4:=Tryz.sizeOf4
 v4:=Tryz.zeroValue4
 t5:=Tryz.underlying5
 a5:=Tryz.isAgg5
 z5:=Tryz.sizeOf5
 v5:=Tryz.zeroValue5
 t9:=Tryz.underlying9
 a9:=Tryz.isAgg9
 z9:=Tryz.sizeOf9
 v9:=Tryz.zeroValue9
 t20:=Tryz.underlying20
 a20:=Tryz.isAgg20
 z20:=Tryz.sizeOf20
 v20:=Tryz.zeroValue20
 t21:=Tryz.underlying21
 a21:=Tryz.isAgg21
 z21:=Tryz.sizeOf21
 v21:=Tryz.zeroValue21
 t37:=Tryz.underlying23
 a37:=Tryz.isAgg23
 z37:=Tryz.sizeOf23
 v37:=Tryz.zeroValue23
 t46:=Tryz.underlying73
 a46:=Tryz.isAgg73
 z46:=Tryz.sizeOf73
 v46:=Tryz.zeroValue73
 t51:=Tryz.underlying152
 a51:=Tryz.isAgg152
 z51:=Tryz.sizeOf152
 v51:=Tryz.zeroValue152
 t70:=Tryz.underlying198
 a70:=Tryz.isAgg198
 z70:=Tryz.sizeOf198
 v70:=Tryz.zeroValue198
 t72:=Tryz.underlying200
 a72:=Tryz.isAgg200
 z72:=Tryz.sizeOf200
 v72:=Tryz.zeroValue200
 t75:=Tryz.underlying203
 a75:=Tryz.isAgg203
 z75:=Tryz.sizeOf203
 v75:=Tryz.zeroValue203
 t76:=Tryz.underlying204
 a76:=Tryz.isAgg204
 z76:=Tryz.sizeOf204
 v76:=Tryz.zeroValue204
 t105:=Tryz.underlying227
 a105:=Tryz.isAgg227
 z105:=Tryz.sizeOf227
 v105:=Tryz.zeroValue227
 t107:=Tryz.underlying209
 a107:=Tryz.isAgg209
 z107:=Tryz.sizeOf209
 v107:=Tryz.zeroValue209
 t119:=Tryz.underlying277
 a119:=Tryz.isAgg277
 z119:=Tryz.sizeOf277
 t127:=Tryz.underlying226
 a127:=Tryz.isAgg226
 z127:=Tryz.sizeOf226
 v127:=Tryz.zeroValue226
 t138:=Tryz.underlying279
 a138:=Tryz.isAgg279
 z138:=Tryz.sizeOf279
 v138:=Tryz.zeroValue279
 t139:=Tryz.underlying280
 a139:=Tryz.isAgg280
 z139:=Tryz.sizeOf280
 v139:=Tryz.zeroValue280
 t160:=Tryz.underlying281
 a160:=Tryz.isAgg281
 z160:=Tryz.sizeOf281
 v160:=Tryz.zeroValue281
 t162:=Tryz.underlying257
 a162:=Tryz.isAgg257
 z162:=Tryz.sizeOf257
 v162:=Tryz.zeroValue257
 t164:=Tryz.underlying251
 a164:=Tryz.isAgg251
 z164:=Tryz.sizeOf251
 v164:=Tryz.zeroValue251
 t203:=Tryz.underlying255
 a203:=Tryz.isAgg255
 z203:=Tryz.sizeOf255
 v203:=Tryz.zeroValue255
 t206:=Tryz.underlying292
 a206:=Tryz.isAgg292
 z206:=Tryz.sizeOf292
 v206:=Tryz.zeroValue292
 t208:=Tryz.underlying294
 a208:=Tryz.isAgg294
 z208:=Tryz.sizeOf294
 v208:=Tryz.zeroValue294
 g3:=by kernel_rfl
 g4:=by kernel_rfl
 g13:=by kernel_rfl}
theorem Tryz.Zc8:Builder.Extra Tryz.prog Tryz.Zg6:={
 sizeBuilder:=by kernel_rfl
 liesBuilder:=by kernel_rfl
 t5:=Tryz.underlying5
 a5:=Tryz.isAgg5
 z5:=Tryz.sizeOf5
 v5:=Tryz.zeroValue5
 infoByte:=by kernel_rfl
 cellsByte:=by kernel_rfl
 sizeByte:=by kernel_rfl
 neB5:=by decide}
open Go.RowKit in
theorem Tryz.strings_ToUpper_ascii (s:ByteArray) (w:World) (hs:s.size≤140737488355328) (hascii:∀(j:Nat) (b:UInt8),s.data.toList[j]? =some b→b.toNat<128):
  Calls Tryz.prog 108 #[.string s] w fun e w'=>e= .returned (.string ⟨(Lib.toUpperA s.data.toList).toArray⟩)∧Below w.heap.size w w':=Any.strings_ToUpper_ascii Tryz.Zaa1 Tryz.Zc8 s w hs hascii
def Tryz.Zq6:Go.Shelf.Ren:=⟨fun | 106=>96 | 213=>135 | 265=>168 | n=>n,fun | 9=>9 | 3=>3 | n=>n,fun | n=>n⟩
theorem Tryz.Zaay:Go.Proofs.Lays.n106 Tryz.prog Tryz.Zq6:={
 mixed:=by kernel_rfl
 f106:=Tryz.func96.trans (congrArg some (by kernel_rfl))
 f213:=Tryz.func135.trans (congrArg some (by kernel_rfl))
 f265:=Tryz.func168.trans (congrArg some (by kernel_rfl))
 t3:=Tryz.underlying3
 a3:=Tryz.isAgg3
 z3:=Tryz.sizeOf3
 v3:=Tryz.zeroValue3
 t9:=Tryz.underlying9
 a9:=Tryz.isAgg9
 z9:=Tryz.sizeOf9
 v9:=Tryz.zeroValue9}
open Go.RowKit in
theorem Tryz.strings_Compare (a b:ByteArray) (w:World):
  Calls Tryz.prog 96 #[.string a,.string b] w fun e w'=>e= .returned (.int .i64 (Lib.compareBytes a.data.toList b.data.toList))∧w'=w:=Any.strings_Compare Tryz.Zaay a b w
def Tryz.Zq8:Go.Shelf.Ren:=⟨fun | 137=>241 | 217=>237 | 266=>243 | n=>n,fun | 9=>9 | 5=>5 | 3=>3 | n=>n,fun | n=>n⟩
theorem Tryz.Zaa0:Go.Proofs.Lays.n137 Tryz.prog Tryz.Zq8:={
 mixed:=by kernel_rfl
 f137:=Tryz.func241.trans (congrArg some (by kernel_rfl))
 f217:=Tryz.func237.trans (congrArg some (by kernel_rfl))
 f266:=Tryz.func243.trans (congrArg some (by kernel_rfl))
 t3:=Tryz.underlying3
 a3:=Tryz.isAgg3
 z3:=Tryz.sizeOf3
 v3:=Tryz.zeroValue3
 t5:=Tryz.underlying5
 a5:=Tryz.isAgg5
 z5:=Tryz.sizeOf5
 v5:=Tryz.zeroValue5
 t9:=Tryz.underlying9
 a9:=Tryz.isAgg9
 z9:=Tryz.sizeOf9
 v9:=Tryz.zeroValue9}
open Go.RowKit in
theorem Tryz.strings_IndexByte (s:ByteArray) (c:Int) (w:World):
  Calls Tryz.prog 241 #[.string s,.int .u8 c] w fun e w'=>e= .returned (.int .i64 (Lib.indexByte s.data.toList c.toNat.toUInt8))∧w'=w:=Any.strings_IndexByte Tryz.Zaa0 s c w
def Tryz.Zq7:Go.Shelf.Ren:=⟨fun | 121=>80 | 214=>123 | n=>n,fun | 4=>4 | 9=>9 | n=>n,fun | n=>n⟩
theorem Tryz.Zaaz:Go.Proofs.Lays.n121 Tryz.prog Tryz.Zq7:={
 mixed:=by kernel_rfl
 f121:=Tryz.func80.trans (congrArg some (by kernel_rfl))
 f214:=Tryz.func123.trans (congrArg some (by kernel_rfl))
 t4:=Tryz.underlying4
 a4:=Tryz.isAgg4
 z4:=Tryz.sizeOf4
 v4:=Tryz.zeroValue4
 t9:=Tryz.underlying9
 a9:=Tryz.isAgg9
 z9:=Tryz.sizeOf9
 v9:=Tryz.zeroValue9}
open Go.RowKit in
theorem Tryz.strconv_FormatBool (b:Bool) (w:World):
  Calls Tryz.prog 80 #[.bool b] w fun e w'=>e= .returned (.string ⟨(Lib.formatBool b).toArray⟩)∧w'=w:=Any.strconv_FormatBool Tryz.Zaaz b w
def Tryz.Zo3:Go.Shelf.Ren:=⟨fun | 171=>82 | 243=>124 | 246=>162 | 283=>182 | 284=>183 | 285=>184 | 286=>185 | 129=>207 | 317=>206 | 318=>208 | 319=>209 | 320=>210 | 337=>226 | 338=>227 | n=>n,fun | 3=>3 | 9=>9 | 2=>2 | 4=>4 | 171=>232 | 0=>0 | 53=>159 | 37=>23 | 5=>5 | 173=>235 | 212=>259 | 51=>152 | 20=>20 | 213=>260 | 46=>73 | 232=>295 | 233=>296 | n=>n,fun | 17=>3 | 18=>6 | 19=>7 | n=>n⟩
theorem Tryz.Zyi:Go.Proofs.LaysM.n171 Tryz.prog Tryz.Zo3:={
 mixed:=by kernel_rfl
 f129:=Tryz.func207.trans (congrArg some (by kernel_rfl))
 f171:=Tryz.func82.trans (congrArg some (by kernel_rfl))
 f243:=Tryz.func124.trans (congrArg some (by kernel_rfl))
 f246:=Tryz.func162.trans (congrArg some (by kernel_rfl))
 f283:=Tryz.func182.trans (congrArg some (by kernel_rfl))
 f284:=Tryz.func183.trans (congrArg some (by kernel_rfl))
 f285:=Tryz.func184.trans (congrArg some (by kernel_rfl))
 f286:=Tryz.func185.trans (congrArg some (by kernel_rfl))
 f317:=Tryz.func206.trans (congrArg some (by kernel_rfl))
 f318:=Tryz.func208.trans (congrArg some (by kernel_rfl))
 f319:=Tryz.func209.trans (congrArg some (by kernel_rfl))
 f320:=Tryz.func210.trans (congrArg some (by kernel_rfl))
 f337:=Tryz.func226.trans (congrArg some (by kernel_rfl))
 f338:=Tryz.func227.trans (congrArg some (by kernel_rfl))
 t0:=Tryz.underlying0
 a0:=Tryz.isAgg0
 z0:=Tryz.sizeOf0
 v0:=Tryz.zeroValue0
 t2:=Tryz.underlying2
 a2:=Tryz.isAgg2
 z2:=Tryz.sizeOf2
 v2:=Tryz.zeroValue2
 t3:=Tryz.underlying3
 a3:=Tryz.isAgg3
 z3:=Tryz.sizeOf3
 v3:=Tryz.zeroValue3
 t4:=Tryz.underlying4
 a4:=Tryz.isAgg4
 z4:=Tryz.sizeOf4
 v4:=Tryz.zeroValue4
 t5:=Tryz.underlying5
 a5:=Tryz.isAgg5
 z5:=Tryz.sizeOf5
 v5:=Tryz.zeroValue5
 t9:=Tryz.underlying9
 a9:=Tryz.isAgg9
 z9:=Tryz.sizeOf9
 v9:=Tryz.zeroValue9
 t20:=Tryz.underlying20
 a20:=Tryz.isAgg20
 z20:=Tryz.sizeOf20
 v20:=Tryz.zeroValue20
 t37:=Tryz.underlying23
 a37:=Tryz.isAgg23
 z37:=Tryz.sizeOf23
 v37:=Tryz.zeroValue23
 t46:=Tryz.underlying73
 a46:=Tryz.isAgg73
 z46:=Tryz.sizeOf73
 v46:=Tryz.zeroValue73
 t51:=Tryz.underlying152
 a51:=Tryz.isAgg152
 z51:=Tryz.sizeOf152
 v51:=Tryz.zeroValue152
 t53:=Tryz.underlying159
 a53:=Tryz.isAgg159
 z53:=Tryz.sizeOf159
 v53:=Tryz.zeroValue159
 t171:=Tryz.underlying232
 a171:=Tryz.isAgg232
 z171:=Tryz.sizeOf232
 v171:=Tryz.zeroValue232
 t173:=Tryz.underlying235
 a173:=Tryz.isAgg235
 z173:=Tryz.sizeOf235
 v173:=Tryz.zeroValue235
 t212:=Tryz.underlying259
 a212:=Tryz.isAgg259
 z212:=Tryz.sizeOf259
 v212:=Tryz.zeroValue259
 t213:=Tryz.underlying260
 a213:=Tryz.isAgg260
 z213:=Tryz.sizeOf260
 t232:=Tryz.underlying295
 a232:=Tryz.isAgg295
 z232:=Tryz.sizeOf295
 v232:=Tryz.zeroValue295
 t233:=Tryz.underlying296
 a233:=Tryz.isAgg296
 z233:=Tryz.sizeOf296
 v233:=Tryz.zeroValue296
 g17:=by kernel_rfl
 g18:=by kernel_rfl
 g19:=by kernel_rfl
 i0:=by kernel_rfl
 i2:=by kernel_rfl
 i3:=by kernel_rfl
 i4:=by kernel_rfl
 i5:=by kernel_rfl
 i9:=by kernel_rfl
 i20:=by kernel_rfl
 i37:=by kernel_rfl
 i46:=by kernel_rfl
 i51:=by kernel_rfl
 i53:=by kernel_rfl
 i171:=by kernel_rfl
 i173:=by kernel_rfl
 i212:=by kernel_rfl
 i232:=by kernel_rfl
 i233:=by kernel_rfl
 m17:=by kernel_rfl
 m18:=by kernel_rfl
 m19:=by kernel_rfl}
open Go.RowKit Go.Sort Go.Lib in
theorem Tryz.strconv_Itoa (n:Int) (h0: -9223372036854775808≤n) (h1:n≤9223372036854775807) (w:World) (htab:Lib.TabIs Tryz.prog w "internal/strconv.uint64pow10" .u64 Lib.pow10Tab):
  Calls Tryz.prog 82 #[.int .i64 n] w fun e w'=>e= .returned (.string ⟨(Lib.itoa n).toArray⟩)∧∃k os,w'=grow (w.drewN k) os:=Any.strconv_Itoa Tryz.Zyi n h0 h1 w htab
def Tryz.Zq9:Go.Shelf.Ren:=⟨fun | 219=>230 | 217=>237 | 225=>238 | 224=>239 | 267=>240 | 266=>243 | 314=>244 | n=>n,fun | 9=>9 | 3=>3 | 4=>4 | 5=>5 | 46=>73 | 146=>299 | 51=>152 | n=>n,fun | 1=>1 | n=>n⟩
theorem Tryz.Zaa2:Go.Proofs.Lays.n219 Tryz.prog Tryz.Zq9:={
 mixed:=by kernel_rfl
 f217:=Tryz.func237.trans (congrArg some (by kernel_rfl))
 f219:=Tryz.func230.trans (congrArg some (by kernel_rfl))
 f224:=Tryz.func239.trans (congrArg some (by kernel_rfl))
 f225:=Tryz.func238.trans (congrArg some (by kernel_rfl))
 f266:=Tryz.func243.trans (congrArg some (by kernel_rfl))
 f267:=Tryz.func240.trans (congrArg some (by kernel_rfl))
 f314:=Tryz.func244.trans (congrArg some (by kernel_rfl))
 t3:=Tryz.underlying3
 a3:=Tryz.isAgg3
 z3:=Tryz.sizeOf3
 v3:=Tryz.zeroValue3
 t4:=Tryz.underlying4
 a4:=Tryz.isAgg4
 z4:=Tryz.sizeOf4
 v4:=Tryz.zeroValue4
 t5:=Tryz.underlying5
 a5:=Tryz.isAgg5
 z5:=Tryz.sizeOf5
 v5:=Tryz.zeroValue5
 t9:=Tryz.underlying9
 a9:=Tryz.isAgg9
 z9:=Tryz.sizeOf9
 v9:=Tryz.zeroValue9
 t46:=Tryz.underlying73
 a46:=Tryz.isAgg73
 z46:=Tryz.sizeOf73
 v46:=Tryz.zeroValue73
 t51:=Tryz.underlying152
 a51:=Tryz.isAgg152
 z51:=Tryz.sizeOf152
 v51:=Tryz.zeroValue152
 t146:=Tryz.underlying299
 a146:=Tryz.isAgg299
 z146:=Tryz.sizeOf299
 v146:=Tryz.zeroValue299
 g1:=by kernel_rfl}
open Go.RowKit Go.Lib in
theorem Tryz.stringslite_Index_one (s:ByteArray) (c:UInt8) (w:World):
  Calls Tryz.prog 230 #[.string s,.string ⟨#[c]⟩] w fun e w'=>e= .returned (.int .i64 (Lib.indexByte s.data.toList c))∧w'=w:=Any.stringslite_Index_one Tryz.Zaa2 s c w
end Go.Proofs
