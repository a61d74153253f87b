/- Objects told: Check and what it leans on. -/
import Derived.Test.YtdlhjfmakdbmkaaGreatDoorP05
import Derived.Test.YtdlhjfmakdbmkaaGreatDoorP06
set_option linter.unusedSimpArgs false
set_option linter.unusedVariables false
set_option linter.unusedSectionVars false
namespace Go.Ev
open Go
variable {T : Tab} {st : St}
structure Kd6 where
 name:List UInt8
 least:Int
 most:Int
 short:Int
 long:Int
 Nr:Int
 deriving DecidableEq
def Kd6.A (k:Kd6):List AV:=[.str k.name,.int .i64 k.least,.int .i64 k.most,.int .i64 k.short,.int .i64 k.long,.int .i64 k.Nr]
def Zkh:List Kd6:=
 [⟨[110,117,108,108,116,121,112,101],0,0,0,0,0⟩,⟨[109,97,114,107,116,121,112,101],0,0,0,0,0⟩,⟨[98,111,111,108,101,97,110,116,121,112,101],0,1,0,0,0⟩,
  ⟨[105,110,116,101,103,101,114,116,121,112,101], -2147483648,2147483647,0,0,0⟩,⟨[114,101,97,108,116,121,112,101], -2147483648,2147483648,0,0,0⟩,⟨[110,97,109,101,116,121,112,101],0,0,0,100,0⟩,
  ⟨[115,116,114,105,110,103,116,121,112,101],0,0,0,0,1⟩,⟨[97,114,114,97,121,116,121,112,101],0,0,0,0,2⟩,⟨[112,97,99,107,101,100,97,114,114,97,121,116,121,112,101],0,0,0,0,2⟩,
  ⟨[100,105,99,116,116,121,112,101],0,0,0,0,3⟩,⟨[111,112,101,114,97,116,111,114,116,121,112,101],0,0,1,100,0⟩,⟨[102,105,108,101,116,121,112,101],0,0,0,0,3⟩,⟨[115,97,118,101,116,121,112,101],1,9223372036854775807,0,0,0⟩]
def Zik:List AV:=Zkh.flatMap Kd6.A
theorem Zg5 (H:B.Gl T) (hwf:st.Wf):Z9 T st (.fn 329 [] []) [] (.agg Zik):=by
 refine Zm H.e H.f rfl ?_
 simp[B.Wn,go_sem,NO.run,B.zKd,B.z533]
 exact⟨rfl,Ext.new hwf _⟩
theorem Zl5 (H:B.Lq T) (hwf:st.Wf) (k:Kd6) (h0:0≤k.Nr) (h1:k.Nr<4):Z9 T st (.fn 417 [] []) [.agg k.A] (.int .i64 (if k.Nr=1∨k.Nr=2 then 1000 else 0)):=by
 refine Zm H.e H.f rfl ?_
 obtain⟨nm,a,b,c,d,e⟩:=k
 simp only at h0 h1
 have:e=0∨e=1∨e=2∨e=3:=by omega
 rcases this with rfl | rfl | rfl | rfl <;> simp[B.Ys,go_sem,Kd6.A] <;> exact Ext.new hwf _
def Zl8 (k:Kd6) (o:Ob):Bool:=decide (k.least≤o.n∧o.n≤k.most)
def Zo6 (k:Kd6) (o:Ob):Bool:=decide (k.short≤o.t.length∧(o.t.length:Int)≤k.long)
def Zb3 (k:Kd6):Int:=if k.Nr=1∨k.Nr=2 then 1000 else 0
def Zc0 (k:Kd6) (o:Ob):Bool:=if k.Nr=0 then decide (o.r=0∧o.o=0∧o.l=0)else decide (0≤o.r∧o.r≤20000∧0≤o.o∧0≤o.l∧o.o≤Zb3 k∧o.l≤Zb3 k - o.o)
theorem Zra (k:Kd6):0≤Zb3 k∧Zb3 k≤1000:=by unfold Zb3;split <;> omega
theorem Zga (H:B.Mi T) (hwf:st.Wf) (k:Kd6) (o:Ob):Z9 T st (.fn 379 [] []) [.agg k.A,o.v] (.bool (Zl8 k o)):=by
 refine Zm H.e H.f rfl ?_
 by_cases h:k.least≤o.n
 all_goals
  simp[B.Va,go_sem,Kd6.A,h,Zl8]
  exact((Ext.refl hwf).Zf (Nat.lt_succ_self _)).Zf (Nat.lt_succ_self _)
theorem Zh7 (H:B.Nj T) (hwf:st.Wf) (k:Kd6) (o:Ob):Z9 T st (.fn 380 [] []) [.agg k.A,o.v] (.bool (Zo6 k o)):=by
 refine Zm H.e H.f rfl ?_
 by_cases h:k.short≤o.t.length
 all_goals
  simp[B.Vw,go_sem,Kd6.A,h,Zo6]
  exact((Ext.refl hwf).Zf (Nat.lt_succ_self _)).Zf (Nat.lt_succ_self _)
theorem Zl4 (H:B.W6 T) (hwf:st.Wf) (k:Kd6) (o:Ob) (h0:0≤k.Nr) (h1:k.Nr<4):Z9 T st (.fn 381 [] []) [.agg k.A,o.v] (.bool (Zc0 k o)):=by
 refine Zm H.e H.f rfl ?_
 have x0:∀m,st.nx+1<m→Ext st ⟨(st.nx+1,Qb.cells 451 true o.A)::(st.nx,Qb.cells 532 true k.A)::st.h,m⟩:=fun m hm=>((Ext.refl hwf).Zf (Nat.lt_succ_self _)).Zf hm
 by_cases h:k.Nr=0
 ·have h':=x0 (st.nx+1+1) (by omega)
  by_cases ha:o.r=0 <;> by_cases hb:o.o=0 <;> simp[B.J4,go_sem,Kd6.A,h,Zc0,ha,hb] <;> simpa [Kd6.A,Ob.A,h,ha,hb] using h'
 ·have x:=x0 (st.nx+1+1) (by omega)
  simp[B.J4,go_sem,Kd6.A,h]
  refine(Zl5 H.Ys x.wf k h0 h1).use fun s1 x1=> ?_
  obtain⟨l0,l1⟩:=Zra k
  have e:(if k.Nr=1∨k.Nr=2 then 1000 else 0)=Zb3 k:=rfl
  have k1:=x1.Zd
  have y:=x.trans x1
  simp only[Kd6.A,Ob.A]at k1
  rw[e]
  by_cases c1:0≤o.r
  ·by_cases c2:o.r≤20000
   ·by_cases c3:0≤o.o
    ·by_cases c4:0≤o.l
     ·by_cases c5:o.o≤Zb3 k
      ·have c6:IntKind.i64.wrap (Zb3 k - o.o)=Zb3 k - o.o:=Zo (by omega) (by omega)
       simp (disch:=omega) [go_sem,k1,c1,c2,c3,c4,c5,c6,Zc0,h,y]
      ·simp (disch:=omega) [go_sem,k1,c1,c2,c3,c4,c5,Zc0,h,y]
     ·simp (disch:=omega) [go_sem,k1,c1,c2,c3,c4,Zc0,h,y]
    ·simp (disch:=omega) [go_sem,k1,c1,c2,c3,Zc0,h,y]
   ·simp (disch:=omega) [go_sem,k1,c1,c2,Zc0,h,y]
  ·simp (disch:=omega) [go_sem,k1,c1,Zc0,h,y]
def Cc (k:Int):Kd6:=Zkh.getD k.toNat ⟨[],0,0,0,0,0⟩
theorem Zu0 {k:Int} (h0:0≤k) (h1:k<13):(Zik.drop (k.toNat*6)).take 6=(Cc k).A∧0≤(Cc k).Nr∧(Cc k).Nr<4:=by
 obtain⟨n,rfl⟩:=Int.eq_ofNat_of_zero_le h0
 have:n=0∨n=1∨n=2∨n=3∨n=4∨n=5∨n=6∨n=7∨n=8∨n=9∨n=10∨n=11∨n=12:=by omega
 rcases this with rfl | rfl | rfl | rfl | rfl | rfl | rfl | rfl | rfl | rfl | rfl | rfl | rfl <;> exact⟨rfl,by decide,by decide⟩
def Je (o:Ob):Bool:=decide (0≤o.k∧o.k<13) && (Zl8 (Cc o.k) o && (Zo6 (Cc o.k) o && Zc0 (Cc o.k) o))
def Em (b:Bool):Int:=if b=true then 0 else 200
theorem Rw (H:B.Yf T) (hwf:st.Wf) (o:Ob):Z9 T st (.fn 326 [] []) [o.v] (.int .i64 (Em (Je o))):=by
 refine Zm H.e H.f rfl ?_
 have x:=(Ext.refl hwf).Zf (o:= .cells 451 true o.A) (Nat.lt_succ_self st.nx)
 by_cases h0:o.k<0
 ·have:Je o=false:=by simp[Je];omega
  simp[B.Qs,go_sem,h0,this,Em]
  exact x
 by_cases h1:13≤o.k
 ·have:Je o=false:=by simp[Je];omega
  simp[B.Qs,go_sem,h0,h1,this,Em]
  exact x
 obtain⟨e1,e2,e3⟩:=Zu0 (k:=o.k) (by omega) (by omega)
 have hk:Je o=(Zl8 (Cc o.k) o && (Zo6 (Cc o.k) o && Zc0 (Cc o.k) o)):=by simp[Je,show 0≤o.k∧o.k<13 by omega]
 have x2:=Ext.upN x (m:=st.nx+1+7) (by omega)
 simp[B.Qs,go_sem,h0,h1]
 refine(Zg5 H.Wn x2.wf).use fun s1 x1=> ?_
 have k1:=x1.Zd
 have n1:=x1.nx
 have y1:=x2.trans x1
 simp only at n1 k1
 have l1:Zik.length=78:=rfl
 simp (disch:=omega) [go_sem,reI,wanted,k1,e1,l1,show 0≤o.k∧o.k<13 by omega,show o.k.toNat*6+6≤78 by omega,B.zKd,Kd6.A]
 have f1:Zh s1.h (st.nx+1)=none:=by
  rw[k1 _ (by omega)]
  simp[Zg]
  cases hq:Zh st.h (st.nx+1)with
  | none=>rfl
  | some q=>have:=hwf.lt _ _ hq;omega
 have y2:=(Ext.Zur (st:=st) (h:=s1.h) (m:=s1.nx) y1 f1 (by omega) (by omega) (o:= .cells 532 true (Cc o.k).A))
 rw[Zs]
 simp (disch:=omega) [B.X4,go_sem,k1,Kd6.A]
 refine(Zga H.Va y2.wf (Cc o.k) o).use fun s2 x2=> ?_
 have k2:=x2.Zd
 have n2:=x2.nx
 have y3:=y2.trans x2
 simp only at n2 k2
 rw[hk]
 cases c1:Zl8 (Cc o.k) o with
 | false=>simp (disch:=omega) [go_sem,Em,y3]
 | true=>
   simp (disch:=omega) [go_sem]
   rw[Zs]
   simp (disch:=omega) [B.X4,go_sem,k2,k1,Kd6.A]
   refine(Zh7 H.Vw y3.wf (Cc o.k) o).use fun s3 x3=> ?_
   have k3:=x3.Zd
   have n3:=x3.nx
   have y4:=y3.trans x3
   cases c2:Zo6 (Cc o.k) o with
   | false=>simp (disch:=omega) [go_sem,Em,y4]
   | true=>
     simp (disch:=omega) [go_sem]
     rw[Zs]
     simp (disch:=omega) [B.X4,go_sem,k3,k2,k1,Kd6.A]
     refine(Zl4 H.J4 y4.wf (Cc o.k) o e2 e3).use fun s4 x4=> ?_
     have y5:=y4.trans x4
     cases c3:Zc0 (Cc o.k) o with
     | false=>simp (disch:=omega) [go_sem,Em,y5]
     | true=>
       simp (disch:=omega) [go_sem]
       rw[Zs]
       simp (disch:=omega) [B.X4,go_sem,Em,y5]
end Go.Ev

/- Objects told: numbers, names, conversions. -/
namespace Go.Ev
open Go
variable {T : Tab} {st : St}
def obZ:Ob:=⟨0,false,0,[],0,0,0⟩
def Jc (n:Int):Ob:=⟨3,false,n,[],0,0,0⟩
def Uc (n:Int):Ob:=⟨4,false,n,[],0,0,0⟩
def Qp (b:Bool):Ob:=⟨2,false,if b=true then 1 else 0,[],0,0,0⟩
def Ib (s:List UInt8) (x:Bool):Ob:=⟨5,x,0,s,0,0,0⟩
theorem Lf (H:B.X7 T) (hwf:st.Wf) (b:Bool):Z9 T st (.fn 343 [] []) [.bool b] (Qp b).v:=by
 refine Zm H.e H.f rfl ?_
 cases b <;> simp[B.Kp,go_sem,B.zOb,Qp] <;> exact((Ext.refl hwf).Zf (Nat.lt_succ_self _)).Zf (Nat.lt_succ_self _)
theorem Zl9 (H:B.C1 T) (hwf:st.Wf) (n:Int):Z9 T st (.fn 427 [] []) [.int .i64 n] (Jc n).v:=by
 refine Zm H.e H.f rfl ?_
 simp[B.Nc,go_sem,B.zOb,Jc]
 exact(Ext.refl hwf).Zf (Nat.lt_succ_self _)
theorem Zkm (H:B.Da T) (hwf:st.Wf) (n:Int):Z9 T st (.fn 428 [] []) [.int .i64 n] (Uc n).v:=by
 refine Zm H.e H.f rfl ?_
 simp[B.Lh,go_sem,B.zOb,Uc]
 exact(Ext.refl hwf).Zf (Nat.lt_succ_self _)
theorem Zkl (H:B.E9 T) (hwf:st.Wf) (s:List UInt8) (x:Bool) (n:Nat) (hn:Zh st.h n=some (.cells 4 true [.bool x])):Z9 T st (.fn 421 [] [.ptr n 0]) [.str s] (Ib s x).v:=by
 refine Zm H.e H.f rfl ?_
 have hn':¬st.nx=n:=by have:=hwf.lt _ _ hn;omega
 simp[B.Lg,go_sem,B.zOb,Ib,hn,hn']
 exact(Ext.refl hwf).Zf (Nat.lt_succ_self _)
def U1 (o:Ob):Ob×Int:=if Je o=true then(o,0)else(obZ,2)
theorem Zb4 (H:B.L3 T) (hwf:st.Wf) {f x:AV} {o:Ob} (hf:∀s,Ext st s→Z9 T s f [x] o.v):Z9 T st (.fn 426 [] []) [x,f] (.tuple [(U1 o).1.v,.int .i64 (U1 o).2]):=by
 refine Zm H.e H.f rfl ?_
 have x0:=(Ext.refl hwf).Zf (o:= .cells 451 true B.zOb) (Nat.lt_succ_self st.nx)
 simp[B.Yw,go_sem]
 refine(hf _ x0).use fun s1 x1=> ?_
 have k1:=x1.Zd
 have n1:=x1.nx
 have y1:=x0.trans x1
 simp only at k1 n1
 have y2:=y1.Zf (o:= .cells 451 true o.A) (Nat.lt_succ_self s1.nx)
 simp (disch:=omega) [go_sem,k1,B.zOb]
 refine(Rw H.Qs y2.wf o).use fun s2 x2=> ?_
 have k2:=x2.Zd
 have n2:=x2.nx
 have y3:=y2.trans x2
 simp only at k2 n2
 have d:¬s1.nx=st.nx:=by omega
 cases hc:Je o <;> simp (disch:=omega) [go_sem,k2,k1,Em,hc,U1,d,B.zOb,obZ] <;> exact Ext.Qw (st:=st) (m:=s2.nx) y3 (Nat.le_refl _)
theorem Zgb (H:B.Mj T) (hwf:st.Wf) {f x:AV} {o:Ob} (hf:∀s,Ext st s→Z9 T s f [x] o.v):Z9 T st (.fn 422 [] []) [x,f] (.tuple [(U1 o).1.v,.int .i64 (U1 o).2]):=by
 refine Zm H.e H.f rfl ?_
 have x0:=(Ext.refl hwf).Zf (o:= .cells 451 true B.zOb) (Nat.lt_succ_self st.nx)
 simp[B.Vb,go_sem]
 refine(hf _ x0).use fun s1 x1=> ?_
 have k1:=x1.Zd
 have n1:=x1.nx
 have y1:=x0.trans x1
 simp only at k1 n1
 have y2:=y1.Zf (o:= .cells 451 true o.A) (Nat.lt_succ_self s1.nx)
 simp (disch:=omega) [go_sem,k1,B.zOb]
 refine(Rw H.Qs y2.wf o).use fun s2 x2=> ?_
 have k2:=x2.Zd
 have n2:=x2.nx
 have y3:=y2.trans x2
 simp only at k2 n2
 have d:¬s1.nx=st.nx:=by omega
 cases hc:Je o <;> simp (disch:=omega) [go_sem,k2,k1,Em,hc,U1,d,B.zOb,obZ] <;> exact Ext.Qw (st:=st) (m:=s2.nx) y3 (Nat.le_refl _)
theorem Zey (H:B.Dt T) (hwf:st.Wf) (n:Int):Z9 T st (.fn 392 [] []) [.int .i64 n] (.tuple [(U1 (Jc n)).1.v,.int .i64 (U1 (Jc n)).2]):=by
 refine Zm H.e H.f rfl ?_
 have x0:=(Ext.refl hwf).Zf (o:= .cells 451 true B.zOb) (Nat.lt_succ_self st.nx)
 simp[B.Mu,go_sem]
 refine(Zb4 H.Yw x0.wf (fun s x=>Zl9 H.Nc x.wf n)).use fun s1 x1=> ?_
 have k1:=x1.Zd
 have y1:=x0.trans x1
 simp only at k1
 generalize (U1 (Jc n))=p
 simp (disch:=omega) [go_sem,k1,B.zOb]
 exact Ext.Qw (st:=st) (m:=s1.nx) y1 (Nat.le_refl _)
theorem Zb6 (H:B.H5 T) (hwf:st.Wf) (n:Int):Z9 T st (.fn 393 [] []) [.int .i64 n] (.tuple [(U1 (Uc n)).1.v,.int .i64 (U1 (Uc n)).2]):=by
 refine Zm H.e H.f rfl ?_
 have x0:=(Ext.refl hwf).Zf (o:= .cells 451 true B.zOb) (Nat.lt_succ_self st.nx)
 simp[B.Xm,go_sem]
 refine(Zb4 H.Yw x0.wf (fun s x=>Zkm H.Lh x.wf n)).use fun s1 x1=> ?_
 have k1:=x1.Zd
 have y1:=x0.trans x1
 simp only at k1
 generalize (U1 (Uc n))=p
 simp (disch:=omega) [go_sem,k1,B.zOb]
 exact Ext.Qw (st:=st) (m:=s1.nx) y1 (Nat.le_refl _)
theorem Zb5 (H:B.H4 T) (hwf:st.Wf) (s:List UInt8) (x:Bool):Z9 T st (.fn 388 [] []) [.str s,.bool x] (.tuple [(U1 (Ib s x)).1.v,.int .i64 (U1 (Ib s x)).2]):=by
 refine Zm H.e H.f rfl ?_
 have x0:=((Ext.refl hwf).Zf (o:= .cells 4 true [.bool x]) (Nat.lt_succ_self st.nx)).Zf (o:= .cells 451 true B.zOb) (Nat.lt_succ_self (st.nx+1))
 simp[B.Xl,go_sem]
 refine(Zgb H.Vb x0.wf (fun s' x'=>Zkl H.Lg x'.wf s x st.nx (by
  have k:=x'.Zd
  simp only at k
  rw[k _ (by omega)]
  simp[Zg]))).use fun s1 x1=> ?_
 have k1:=x1.Zd
 have y1:=x0.trans x1
 simp only at k1
 generalize (U1 (Ib s x))=p
 simp (disch:=omega) [go_sem,k1,B.zOb]
 exact Ext.Qw (st:=st) (m:=s1.nx) y1 (by omega)
def Tf (o:Ob):Bool:=decide (o.k=3∨o.k=4)
def Rt (o:Ob):Int:=if o.k=3 then o.n*65536 else o.n
theorem Zqb {o:Ob} (h:Je o=true) (hk:o.k=3∨o.k=4): -2147483648≤o.n∧o.n≤2147483648:=by
 simp only[Je,Bool.and_eq_true,Zl8,decide_eq_true_eq]at h
 obtain⟨_,⟨h1,h2⟩,_⟩:=h
 rcases hk with hk | hk <;> rw[hk]at h1 h2 <;> simp[Cc,Zkh]at h1 h2 <;> omega
theorem Zaev {o:Ob} (h:Je o=true) (hk:Tf o=true): -140737488355328≤Rt o∧Rt o≤140737488355328:=by
 have hk':o.k=3∨o.k=4:=by simpa [Tf] using hk
 have:=Zqb h hk'
 unfold Rt
 split <;> omega
theorem Zex (H:B.Lr T) (hwf:st.Wf) (o:Ob) (h:Je o=true) (hk:Tf o=true):Z9 T st (.fn 425 [] []) [o.v] (.int .i64 (Rt o)):=by
 refine Zm H.e H.f rfl ?_
 have hk':o.k=3∨o.k=4:=by simpa [Tf] using hk
 have:=Zqb h hk'
 have x0:=(Ext.refl hwf).Zf (o:= .cells 569 true o.A) (Nat.lt_succ_self st.nx)
 by_cases h3:o.k=3 <;> simp (disch:=omega) [B.Yt,go_sem,h3,Rt] <;> simpa [Ob.A,h3] using x0
def I9 (o:Ob):Int:=if Je o=true then(if Tf o=true then 0 else 22)else 200
theorem Zkk (H:B.Gm T) (hwf:st.Wf) (o:Ob):Z9 T st (.fn 424 [] []) [o.v] (.tuple [(if I9 o=0 then o else obZ).v,.int .i64 (I9 o)]):=by
 refine Zm H.e H.f rfl ?_
 have x0:=((Ext.refl hwf).Zf (o:= .cells 451 true o.A) (Nat.lt_succ_self st.nx)).Zf (o:= .cells 569 true B.zOb) (Nat.lt_succ_self (st.nx+1))
 simp[B.Wc,go_sem]
 refine(Rw H.Qs x0.wf o).use fun s1 x1=> ?_
 have k1:=x1.Zd
 have y1:=x0.trans x1
 simp only at k1
 have y2:=Ext.Qw (st:=st) (h:=s1.h) (m:=s1.nx) (n:=st.nx+1) (o:= .cells 569 true o.A) y1 (by omega)
 have y3:=Ext.Qw (st:=st) (h:=s1.h) (m:=s1.nx) (n:=st.nx+1) (o:= .cells 569 true B.zOb) y1 (by omega)
 cases hc:Je o with
 | false=>simp (disch:=omega) [go_sem,k1,Em,B.zOb,I9,hc,obZ];exact y3
 | true=>
   by_cases h3:o.k=3
   ·simp (disch:=omega) [go_sem,k1,Em,B.zOb,I9,Tf,hc,h3];simpa [Ob.A,h3] using y2
   ·by_cases h4:o.k=4
    ·simp (disch:=omega) [go_sem,k1,Em,B.zOb,I9,Tf,hc,h3,h4];simpa [Ob.A,h4] using y2
    ·simp (disch:=omega) [go_sem,k1,Em,B.zOb,I9,Tf,hc,h3,h4,obZ];exact y3
theorem Zat (H:B.Mh T) (hwf:st.Wf) (o:Ob):Z9 T st (.fn 391 [] []) [o.v] (.tuple [.int .i64 (if I9 o=0 then Rt o else 0),.int .i64 (I9 o)]):=by
 refine Zm H.e H.f rfl ?_
 have x0:=(Ext.refl hwf).Zf (o:= .cells 451 true o.A) (Nat.lt_succ_self st.nx)
 simp[B.Yp,go_sem]
 refine(Zkk H.Wc x0.wf o).use fun s1 x1=> ?_
 have k1:=x1.Zd
 have y1:=x0.trans x1
 simp only at k1
 by_cases h:I9 o=0
 ·have y2:=y1.Zf (o:= .cells 569 true o.A) (Nat.lt_succ_self s1.nx)
  have hc:Je o=true∧Tf o=true:=by
   unfold I9 at h
   split at h
   ·split at h
    ·exact⟨by assumption,by assumption⟩
    ·cases h
   ·cases h
  simp (disch:=omega) [go_sem,k1,h,B.zOb]
  refine(Zex H.Yt y2.wf o hc.1 hc.2).use fun s2 x2=> ?_
  simp (disch:=omega) [go_sem,h]
  exact y2.trans x2
 ·have y2:=y1.Zf (o:= .cells 569 true obZ.A) (Nat.lt_succ_self s1.nx)
  simp (disch:=omega) [go_sem,k1,h,B.zOb]
  exact y2
end Go.Ev

/- Objects told: Compare, conversions, the name of a kind. -/
namespace Go.Ev
open Go
variable {T : Tab} {st : St}
theorem Zew {o:Ob}:I9 o=0↔Je o=true∧Tf o=true:=by
 unfold I9
 cases Je o <;> cases Tf o <;> simp
theorem Zri {o:Ob} (h:Je o=true) (h2:Tf o=false):I9 o=22:=by simp[I9,h,h2]
def Zxs (a b:Int):Int:=if a<b then -1 else if b<a then 1 else 0
def O6 (a b:Ob):Int×Int:=
 if Je a=true∧Je b=true then(if Tf a=true∧Tf b=true then(Zxs (Rt a) (Rt b),0)else(0,22))else(0,200)
theorem Zgu (H:B.M0 T) (hwf:st.Wf) (a b:Ob):Z9 T st (.fn 385 [] []) [a.v,b.v] (.tuple [.int .i64 (O6 a b).1,.int .i64 (O6 a b).2]):=by
 refine Zm H.e H.f rfl ?_
 have x0:=((Ext.refl hwf).Zf (o:= .cells 451 true a.A) (Nat.lt_succ_self st.nx)).Zf (o:= .cells 451 true b.A) (Nat.lt_succ_self (st.nx+1))
 simp[B.Vj,go_sem]
 refine(Rw H.Qs x0.wf a).use fun s1 x1=> ?_
 have k1:=x1.Zd
 have y1:=x0.trans x1
 have n1:=x1.nx
 simp only at k1 n1
 cases ha:Je a with
 | false=>simp (disch:=omega) [go_sem,k1,Em,O6,ha];exact y1
 | true=>
   simp (disch:=omega) [go_sem,k1,Em]
   refine(Rw H.Qs y1.wf b).use fun s2 x2=> ?_
   have k2:=x2.Zd
   have y2:=y1.trans x2
   have n2:=x2.nx
   cases hb:Je b with
   | false=>simp (disch:=omega) [go_sem,k2,k1,Em,O6,ha,hb];exact y2
   | true=>
     simp (disch:=omega) [go_sem,k2,k1,Em]
     refine(Zat H.Yp y2.wf a).use fun s3 x3=> ?_
     have k3:=x3.Zd
     have y3:=y2.trans x3
     have n3:=x3.nx
     cases hna:Tf a with
     | false=>simp (disch:=omega) [go_sem,Zri ha hna,O6,ha,hb,hna,y3]
     | true=>
       simp (disch:=omega) [go_sem,Zew.2 ⟨ha,hna⟩,k3,k2,k1]
       refine(Zat H.Yp y3.wf b).use fun s4 x4=> ?_
       have y4:=y3.trans x4
       cases hnb:Tf b with
       | false=>simp (disch:=omega) [go_sem,Zri hb hnb,O6,ha,hb,hna,hnb,y4]
       | true=>
         have e:O6 a b=(Zxs (Rt a) (Rt b),0):=by simp[O6,ha,hb,hna,hnb]
         rw[e]
         simp (disch:=omega) [go_sem,Zew.2 ⟨hb,hnb⟩]
         by_cases h1:Rt a<Rt b
         ·simp (disch:=omega) [go_sem,h1,Zxs,y4]
         ·by_cases h2:Rt b<Rt a
          ·simp (disch:=omega) [go_sem,h1,h2,Zxs,y4]
          ·simp (disch:=omega) [go_sem,h1,h2,Zxs,y4]
theorem Zabv (n:Int):(n.tdiv 65536).natAbs≤n.natAbs:=by
 rw[Int.natAbs_tdiv]
 exact Nat.div_le_self _ _
def G6 (o:Ob):Ob×Int:=if I9 o=0 then(if -2147483648≤Rt o∧Rt o≤2147483648 then U1 (Uc (Rt o))else(obZ,25))else(obZ,I9 o)
def Ns (o:Ob):Ob×Int:=if I9 o=0 then U1 (Jc ((Rt o).tdiv 65536))else(obZ,I9 o)
theorem Zuf (H:B.Db T) (hwf:st.Wf) (o:Ob):Z9 T st (.fn 351 [] []) [o.v] (.tuple [(G6 o).1.v,.int .i64 (G6 o).2]):=by
 refine Zm H.e H.f rfl ?_
 have x0:=((Ext.refl hwf).Zf (o:= .cells 451 true o.A) (Nat.lt_succ_self st.nx)).Zf (o:= .cells 451 true B.zOb) (Nat.lt_succ_self (st.nx+1))
 simp[B.Li,go_sem]
 refine(Zat H.Yp x0.wf o).use fun s1 x1=> ?_
 have k1:=x1.Zd
 have y1:=x0.trans x1
 have n1:=x1.nx
 simp only at k1 n1
 have y2:=Ext.Qw (st:=st) (h:=s1.h) (m:=s1.nx) (n:=st.nx+1) (o:= .cells 451 true B.zOb) y1 (by omega)
 by_cases h:I9 o=0
 ·by_cases h1:Rt o< -2147483648
  ·have:¬(-2147483648≤Rt o∧Rt o≤2147483648):=by omega
   simp (disch:=omega) [go_sem,k1,h,G6,h1,this,B.zOb,obZ];exact y2
  ·by_cases h2:2147483648<Rt o
   ·have:¬(-2147483648≤Rt o∧Rt o≤2147483648):=by omega
    simp (disch:=omega) [go_sem,k1,h,G6,h1,h2,this,B.zOb,obZ];exact y2
   ·have e:G6 o=U1 (Uc (Rt o)):=by
     unfold G6
     rw[if_pos h,if_pos (by omega)]
    rw[e]
    simp (disch:=omega) [go_sem,k1,h,h1,h2]
    refine(Zb6 H.Xm y1.wf (Rt o)).use fun s2 x2=> ?_
    have k2:=x2.Zd
    have y3:=y1.trans x2
    generalize U1 (Uc (Rt o))=p
    simp (disch:=omega) [go_sem,k2,k1,B.zOb]
    exact Ext.Qw (st:=st) (m:=s2.nx) y3 (by omega)
 ·simp (disch:=omega) [go_sem,k1,h,G6,B.zOb,obZ];exact y2
theorem Zm8 (H:B.Gk T) (hwf:st.Wf) (o:Ob):Z9 T st (.fn 350 [] []) [o.v] (.tuple [(Ns o).1.v,.int .i64 (Ns o).2]):=by
 refine Zm H.e H.f rfl ?_
 have x0:=((Ext.refl hwf).Zf (o:= .cells 451 true o.A) (Nat.lt_succ_self st.nx)).Zf (o:= .cells 451 true B.zOb) (Nat.lt_succ_self (st.nx+1))
 simp[B.Wm,go_sem]
 refine(Zat H.Yp x0.wf o).use fun s1 x1=> ?_
 have k1:=x1.Zd
 have y1:=x0.trans x1
 have n1:=x1.nx
 simp only at k1 n1
 have y2:=Ext.Qw (st:=st) (h:=s1.h) (m:=s1.nx) (n:=st.nx+1) (o:= .cells 451 true B.zOb) y1 (by omega)
 by_cases h:I9 o=0
 ·have e:Ns o=U1 (Jc ((Rt o).tdiv 65536)):=by
   unfold Ns
   rw[if_pos h]
  rw[e]
  have hb:=Zaev (Zew.1 h).1 (Zew.1 h).2
  have hq:=Zabv (Rt o)
  simp (disch:=omega) [go_sem,k1,h]
  refine(Zey H.Mu y1.wf ((Rt o).tdiv 65536)).use fun s2 x2=> ?_
  have k2:=x2.Zd
  have y3:=y1.trans x2
  generalize U1 (Jc ((Rt o).tdiv 65536))=p
  simp (disch:=omega) [go_sem,k2,k1,B.zOb]
  exact Ext.Qw (st:=st) (m:=s2.nx) y3 (by omega)
 ·simp (disch:=omega) [go_sem,k1,h,Ns,B.zOb,obZ];exact y2
def Cn (o:Ob):List UInt8×Int:=if Je o=true then((Cc o.k).name,0)else([],200)
theorem Zo1 (H:B.Gj T) (hwf:st.Wf) (o:Ob):Z9 T st (.fn 305 [] []) [o.v] (.tuple [.str (Cn o).1,.int .i64 (Cn o).2]):=by
 refine Zm H.e H.f rfl ?_
 have x0:=(Ext.refl hwf).Zf (o:= .cells 451 true o.A) (Nat.lt_succ_self st.nx)
 simp[B.Wb,go_sem]
 refine(Rw H.Qs x0.wf o).use fun s1 x1=> ?_
 have k1:=x1.Zd
 have y1:=x0.trans x1
 have n1:=x1.nx
 simp only at k1 n1
 cases hc:Je o with
 | false=>simp (disch:=omega) [go_sem,k1,Em,Cn,hc,y1]
 | true=>
   have hk:0≤o.k∧o.k<13:=by
    simp only[Je,Bool.and_eq_true,decide_eq_true_eq]at hc
    exact hc.1
   obtain⟨e1,e2,e3⟩:=Zu0 (k:=o.k) (by omega) (by omega)
   have l1:Zik.length=78:=rfl
   have y2:=y1.upN (st:=st) (h:=s1.h) (n:=s1.nx) (m:=s1.nx+8) (by omega)
   simp (disch:=omega) [go_sem,k1,Em]
   refine(Zg5 H.Wn y2.wf).use fun s2 x2=> ?_
   have k2:=x2.Zd
   have y3:=y2.trans x2
   simp only at k2
   simp (disch:=omega) [go_sem,reI,wanted,k2,k1,e1,l1,hk,show o.k.toNat*6+6≤78 by omega,Kd6.A,Cn,hc,y3]
end Go.Ev

/- Heaps told: does an object fit, what a string holds. -/
namespace Go.Ev
open Go
variable {T : Tab} {st : St}
def Znn (k:Int):Int:=if k=6 then 1 else if k=7 then 2 else if k=8 then 2 else if k=9 then 3 else if k=11 then 4 else 0
def Zgs (c:Ce):Int:=if c.k=1 then c.b.length else c.it.length
theorem Ziz (H:B.E7 T) (hwf:st.Wf) (k:Int) (h0:0≤k) (h1:k<13):Z9 T st (.fn 327 [] []) [.int .i64 k] (.int .i64 (Znn k)):=by
 refine Zm H.e H.f rfl ?_
 obtain⟨n,rfl⟩:=Int.eq_ofNat_of_zero_le h0
 have:n=0∨n=1∨n=2∨n=3∨n=4∨n=5∨n=6∨n=7∨n=8∨n=9∨n=10∨n=11∨n=12:=by omega
 rcases this with rfl | rfl | rfl | rfl | rfl | rfl | rfl | rfl | rfl | rfl | rfl | rfl | rfl <;> simp[B.Lb,go_sem,List.replicate,Znn] <;> exact Ext.refl hwf
theorem CeR.row {h:Heap} {c:Ce} {x:List AV} (a:CeR h c x):∃p q r,x=[.int .i64 c.k,.str c.b,p,q,r,.int .i64 c.mx,.int .i64 c.at']∧RdO h p c.it∧RdO h q c.ks∧RdO h r c.vs:=a
theorem Zo4 (H:B.Ft T) (hwf:st.Wf) {c:Ce} {x:List AV} (hc:CeR st.h c x):Z9 T st (.fn 328 [] []) [.agg x] (.int .i64 (Zgs c)):=by
 refine Zm H.e H.f rfl ?_
 obtain⟨p,q,r,rfl,h1,h2,h3⟩:=hc.row
 have x0:=(Ext.refl hwf).Zf (o:= .cells 486 true [.int .i64 c.k,.str c.b,p,q,r,.int .i64 c.mx,.int .i64 c.at']) (Nat.lt_succ_self st.nx)
 by_cases hk:c.k=1
 ·simp[B.Xi,go_sem,hk,Zgs];simpa [hk] using x0
 ·obtain⟨h0,⟨rfl,h4⟩ | ⟨n,off,cp,rfl,_⟩⟩:=h1
  ·have:c.it.length=0:=h4
   simp[B.Xi,go_sem,hk,Zgs,this];exact x0
  ·simp[B.Xi,go_sem,hk,Zgs];exact x0
def Zdl (hp:List Ce) (r:Int):Option Ce:=hp[r.toNat]?
def Yz (hp:List Ce) (o:Ob):Bool:=
 Je o && (decide (Znn o.k=0) || match Zdl hp o.r with
  | none=>false
  | some c=>decide (c.k=Znn o.k) && (decide (o.k=9) || (decide (o.k=11) || decide (o.o+o.l≤Zgs c))))
theorem Znl {o:Ob} (h:Je o=true):0≤o.k∧o.k<13:=by
 simp only[Je,Bool.and_eq_true,decide_eq_true_eq]at h
 exact h.1
theorem Zff {o:Ob} (h:Je o=true) (hk:Znn o.k≠0):0≤o.r∧o.r≤20000∧0≤o.o∧0≤o.l∧o.o+o.l≤1000:=by
 have h0:=Znl h
 simp only[Je,Bool.and_eq_true,Zc0,decide_eq_true_eq]at h
 have hr:(Cc o.k).Nr≠0:=by
  intro e
  obtain⟨n,hn⟩:=Int.eq_ofNat_of_zero_le h0.1
  rw[hn]at hk e
  have:n=0∨n=1∨n=2∨n=3∨n=4∨n=5∨n=6∨n=7∨n=8∨n=9∨n=10∨n=11∨n=12:=by omega
  rcases this with rfl | rfl | rfl | rfl | rfl | rfl | rfl | rfl | rfl | rfl | rfl | rfl | rfl <;> revert hk e <;> decide
 rw[if_neg hr]at h
 have:=Zra (Cc o.k)
 simp only[decide_eq_true_eq]at h
 omega
theorem O9 (H:B.Ed T) (hwf:st.Wf) {v:AV} {hp:List Ce} (hv:HpR st.h v hp) (o:Ob):Z9 T st (.fn 304 [] []) [v,o.v] (.bool (Yz hp o)):=by
 refine Zm H.e H.f rfl ?_
 have x0:=(Ext.refl hwf).Zf (o:= .cells 451 true o.A) (Nat.lt_succ_self st.nx)
 simp[B.W9,go_sem]
 refine(Rw H.Qs x0.wf o).use fun s1 x1=> ?_
 have k1:=x1.Zd
 have y1:=x0.trans x1
 have n1:=x1.nx
 simp only at k1 n1
 cases hc:Je o with
 | false=>simp (disch:=omega) [go_sem,k1,Em,Yz,hc,y1]
 | true=>
   have hk:=Znl hc
   simp (disch:=omega) [go_sem,k1,Em]
   refine(Ziz H.Lb y1.wf o.k hk.1 hk.2).use fun s2 x2=> ?_
   have k2:=x2.Zd
   have y2:=y1.trans x2
   have n2:=x2.nx
   by_cases h0:Znn o.k=0
   ·simp (disch:=omega) [go_sem,k2,k1,h0,Yz,hc,y2]
   obtain⟨r0,_,o0,l0,b0⟩:=Zff hc h0
   rcases hv.form hwf with ⟨rfl,rfl⟩ | ⟨n,off,cp,ob,rfl,hcp,hn,hg,how,hat⟩
   ·simp (disch:=omega) [go_sem,k2,k1,h0,Yz,hc,r0,y2,Zdl]
   ·by_cases hr:(hp.length:Int)≤o.r
    ·have:Zdl hp o.r=none:=List.getElem?_eq_none (by omega)
     simp (disch:=omega) [go_sem,k2,k1,h0,Yz,hc,hr,this,y2]
    ·obtain⟨c,hcc⟩:∃c,Zdl hp o.r=some c:=⟨_,List.getElem?_eq_getElem (by omega)⟩
     obtain⟨x,hx,hcr⟩:=hat _ _ hcc
     obtain⟨p,q,r,rfl,h1,h2,h3⟩:=hcr.row
     have e0:=Jg hx (i:=0) (by omega)
     simp only[Nat.add_zero,List.getElem?_cons_zero]at e0
     have hlt:o.r<(hp.length:Int):=by omega
     have d:¬st.nx=n:=by omega
     by_cases hck:c.k=Znn o.k
     ·have z0:=y2.upN (st:=st) (h:=s2.h) (n:=s2.nx) (m:=s2.nx+25) (by omega)
      have hff:Yz hp o=(decide (o.k=9) || (decide (o.k=11) || decide (o.o+o.l≤Zgs c))):=by simp[Yz,hc,h0,hcc,hck]
      rw[hff]
      by_cases h9:o.k=9
      ·simp (disch:=omega) [go_sem,reI,wanted,k2,k1,h0,hr,r0,hlt,d,hg,e0,hck,eq_true h9]
       exact z0
      by_cases h11:o.k=11
      ·simp (disch:=omega) [go_sem,reI,wanted,k2,k1,h0,hr,r0,hlt,d,hg,e0,hck,h9,eq_true h11]
       exact z0
      have hcr':CeR s2.h c [.int .i64 c.k,.str c.b,p,q,r,.int .i64 c.mx,.int .i64 c.at']:=hcr.ext y2 hwf
      simp (disch:=omega) [go_sem,reI,wanted,k2,k1,h0,hr,r0,hlt,d,hg,e0,hx,hck,h9,h11]
      rw[hck]at hcr'
      refine(Zo4 H.Xi z0.wf (c:=c) hcr').use fun s3 x3=> ?_
      have k3:=x3.Zd
      have y3:=z0.trans x3
      have n3:=x3.nx
      simp only at k3 n3
      have w3:IntKind.i64.wrap (o.o+o.l)=o.o+o.l:=Zo (by omega) (by omega)
      simp (disch:=omega) [go_sem,reI,wanted,k3,k2,k1,w3,y3]
     ·simp (disch:=omega) [go_sem,k2,k1,h0,Yz,hc,hr,hcc,r0,hlt,d,hg,e0,hck,y2]
end Go.Ev

/- Heaps told: views, what a string holds. -/
namespace Go.Ev
open Go
variable {T : Tab} {st : St}
def Nw (l:List Int):List AV:=l.map fun n=> .int .i64 n
def RdI (h:Heap) (v:AV) (l:List Int):Prop:=Rd h v 1 l.length (Nw l)
theorem RdI.form {v:AV} {l:List Int} (a:RdI st.h v l) (hw:st.Wf):(v= .Zc∧l=[])∨∃n off cp ob,v= .slice n off l.length cp∧n<st.nx∧Zh st.h n=some ob∧∀i x,l[i]? =some x→Ze2 ob (off+i)=some (.int .i64 x):=by
 rcases a with ⟨h1,h2,h3⟩ | ⟨n,off,cp,h1,h2⟩
 ·exact .inl ⟨h1,List.length_eq_zero_iff.1 h2⟩
 ·rw[Cd]at h2
  cases hg:Zh st.h n with
  | none=>rw[hg]at h2;cases h2
  | some ob=>
    rw[hg]at h2
    refine .inr ⟨n,off,cp,ob,h1,hw.lt _ _ hg,hg,fun i x hx=> ?_⟩
    have hi:i<l.length:=(List.getElem?_eq_some_iff.1 hx).1
    have:=Jg (show A4 ob off (l.length*1)=some (Nw l)from h2) (i:=i) (by omega)
    rw[this]
    simp[Nw,hx]
theorem RdI.ext {st':St} {v:AV} {l:List Int} (a:RdI st.h v l) (x:Ext st st') (hw:st.Wf):RdI st'.h v l:=Rd.ext a x hw
theorem Zq0 (hwf:st.Wf) {v:AV} {l:List Int} (hv:RdI st.h v l) (hl:l.length<1000000000) (x:Int):∀(m i:Nat) (e:Env),i+m=l.length→(∀j,j<i→l[j]?≠some x)→Zl e 0=v→Zl e 1= .int .i64 x→Zl e 7= .int .i64 l.length→Zl e 8= .int .i64 i→
  Res (run T (.loop B.K9) e st) fun q e' s'=>s'=st∧((q= .ret∧x∈l∧∃j:Nat,Zl e' 4= .int .i64 j)∨(q= .exit 0∧x∉l)):=by
 intro m
 induction m with
 | zero=>
   intro i e hi hn g0 g1 g7 g8
   rw[Zs]
   have:¬(i:Int)<l.length:=by omega
   have hx:x∉l:=fun h=>by
    obtain⟨j,hj⟩:=List.getElem?_of_mem h
    exact hn j (by have:=(List.getElem?_eq_some_iff.1 hj).1;omega) hj
   simp[B.K9,go_sem,g0,g1,g7,g8,this,hx]
 | succ m ih=>
   intro i e hi hn g0 g1 g7 g8
   rw[Zs]
   have hil:i<l.length:=by omega
   have h1:(i:Int)<l.length:=by omega
   obtain⟨y,hy⟩:∃y,l[i]? =some y:=⟨_,List.getElem?_eq_getElem hil⟩
   rcases hv.form hwf with ⟨rfl,rfl⟩ | ⟨n,off,cp,ob,rfl,hlt,hg,hat⟩
   ·simp at hil
   ·have e1:=hat i y hy
    by_cases hxy:x=y
    ·have hm:x∈l:=by rw[hxy];exact List.mem_of_getElem? hy
     simp (disch:=omega) [B.K9,go_sem,g0,g1,g7,g8,h1,hg,e1,hxy,hm]
     rw[←hxy];exact⟨hm,i,rfl⟩
    ·simp (disch:=omega) [B.K9,go_sem,g0,g1,g7,g8,h1,hg,e1,hxy]
     refine ih (i+1) _ (by omega) (fun j hj=> ?_) (by simp[go_sem]) (by simp[go_sem]) (by simp[go_sem]) (by simp[go_sem])
     by_cases hji:j=i
     ·rw[hji,hy];intro h;injection h with h;exact hxy h.symm
     ·exact hn j (by omega)
theorem Zdq (H:B.U5 T) (hwf:st.Wf) {v:AV} {l:List Int} (hv:RdI st.h v l) (hl:l.length<1000000000) (x:Int):Z9 T st (.fn 432 [] []) [v,.int .i64 x] (.bool (decide (x∈l))):=by
 refine Zm H.e H.f rfl ?_
 simp[B.Ka,go_sem]
 obtain⟨d,hd⟩:∃d,decide (x∈l)=d:=⟨_,rfl⟩
 rw[hd]
 have key:Qt (call T (.fn 446 [] []) [v,.int .i64 x] st) fun w s=>Ext st s∧∃j:Int,w= .int .i64 j∧decide (0≤j)=d:=by
  refine Zw H.Kf.e H.Kf.f rfl ?_
  simp[B.Kf,go_sem]
  have fin:∀(q:Ex) (e':Env) (s':St),(s'=st∧((q= .ret∧x∈l∧∃j:Nat,Zl e' 4= .int .i64 j)∨(q= .exit 0∧x∉l)))→
    Zv3 0 (Ztq T ((Zv.Zd []).seq ((Zv.Ze [{dst:=some 4,guard:=none,op:=MO.p (PO.Za (AO.k (AV.int IntKind.i64 (-1))))}]).seq Zv.ret)) fun q e s=>(q= .norm∨q= .ret)∧Ext st ⟨Zb st.nx s.h,s.nx⟩∧∃j:Int,Zl e 4= .int .i64 j∧decide (0≤j)=d) q e' s':=by
   rintro q e' s' ⟨rfl,⟨rfl,hm,j,hj⟩ | ⟨rfl,hm⟩⟩
   ·have:true=d:=by rw[←hd];simp[hm]
    simp[go_sem,hj,this]
    exact(Ext.refl hwf).Zb
   ·have:d=false:=by rw[←hd];simp[hm]
    simp[go_sem,this]
    exact(Ext.refl hwf).Zb
  rcases hv.form hwf with ⟨rfl,rfl⟩ | ⟨n,off,cp,ob,rfl,hlt,hg,hat⟩
  all_goals
   simp[go_sem]
   exact(Zq0 hwf hv hl x _ 0 _ (Nat.zero_add _) (fun j hj=>by omega) (by simp[go_sem]) (by simp[go_sem]) (by simp[go_sem]) (by simp[go_sem])).mono fin
 refine key.mono ?_
 rintro w s ⟨hx,j,rfl,hj⟩
 simp[go_sem,hj,hx]
end Go.Ev

/- Heaps told: views, what a string holds, equality. -/
namespace Go.Ev
open Go
variable {T : Tab} {st : St}
def Hc (hp:List Ce) (ks:List Int) (o:Ob):Int:=if Yz hp o=true then(if o.k∈ks then 0 else 22)else 2
def Zhj (v:AV) (o:Ob) (e:Int):AV:=if e=0 then .agg (v::o.A)else .agg (.Zc::obZ.A)
theorem Zfa (H:B.H0 T) (hwf:st.Wf) {v:AV} {hp:List Ce} (hv:HpR st.h v hp) (o:Ob) {vk:AV} {ks:List Int} (hk:RdI st.h vk ks) (hkl:ks.length<1000000000):
  Z9 T st (.fn 400 [] []) [v,o.v,vk] (.tuple [Zhj v o (Hc hp ks o),.int .i64 (Hc hp ks o)]):=by
 refine Zm H.e H.f rfl ?_
 have vsc:=hv.sc
 have x0:=((Ext.refl hwf).Zf (o:= .cells 451 true o.A) (Nat.lt_succ_self st.nx)).Zf (o:= .cells 554 true [.Zc,.int .i64 0,.bool false,.int .i64 0,.str [],.int .i64 0,.int .i64 0,.int .i64 0]) (Nat.lt_succ_self (st.nx+1))
 simp[B.Xk,go_sem]
 refine(O9 H.W9 x0.wf (hv.ext x0 hwf) o).use fun s1 x1=> ?_
 have k1:=x1.Zd
 have y1:=x0.trans x1
 have n1:=x1.nx
 simp only at k1 n1
 have z:=Ext.Qw (st:=st) (h:=s1.h) (m:=s1.nx) (n:=st.nx+1) (o:= .cells 554 true [.Zc,.int .i64 0,.bool false,.int .i64 0,.str [],.int .i64 0,.int .i64 0,.int .i64 0]) y1 (by omega)
 cases hf:Yz hp o with
 | false=>simp (disch:=omega) [go_sem,k1,Hc,Zhj,hf,obZ];exact z
 | true=>
   simp (disch:=omega) [go_sem,k1]
   refine(Zdq H.Ka y1.wf (hk.ext y1 hwf) hkl o.k).use fun s2 x2=> ?_
   have k2:=x2.Zd
   have y2:=y1.trans x2
   have n2:=x2.nx
   by_cases hm:o.k∈ks
   ·rcases hv.form hwf with ⟨rfl,rfl⟩ | ⟨n,off,cp,ob,rfl,hcp,hlt,hg,how,hat⟩
    all_goals
     simp (disch:=omega) [go_sem,k2,k1,Hc,Zhj,hf,hm]
     exact Ext.Qw (st:=st) (h:=s2.h) (m:=s2.nx) (n:=st.nx+1) y2 (by omega)
   ·simp (disch:=omega) [go_sem,k2,k1,Hc,Zhj,hf,hm,obZ]
    exact Ext.Qw (st:=st) (h:=s2.h) (m:=s2.nx) (n:=st.nx+1) y2 (by omega)
theorem Zad (H:B.Mz T) (hwf:st.Wf) {v:AV} {hp:List Ce} (hv:HpR st.h v hp) {o:Ob} {c:Ce} (hr:0≤o.r) (hc:Zdl hp o.r=some c):
  Qt (call T (.fn 401 [] []) [.agg (v::o.A)] st) fun w s=>Ext st s∧∃x,w= .agg x∧CeR s.h c x:=by
 refine Zw H.e H.f rfl ?_
 rcases hv.form hwf with ⟨rfl,rfl⟩ | ⟨n,off,cp,ob,rfl,hcp,hlt,hg,how,hat⟩
 ·simp[Zdl]at hc
 obtain⟨x,hx,hcr⟩:=hat _ _ hc
 have hil:o.r<(hp.length:Int):=by
  have:=(List.getElem?_eq_some_iff.1 hc).1
  omega
 have d1:¬st.nx+1=n:=by omega
 have d2:¬st.nx=n:=by omega
 have hsc:=hcr.sc
 obtain⟨p,q,r,rfl,h1,h2,h3⟩:=hcr.row
 simp only[List.all_cons,List.all_nil,Bool.and_eq_true]at hsc
 simp (disch:=omega) [B.Vh,go_sem,B.zCe,hr,hil,hg,d1,d2,hx,hsc]
 have z:∀o1 o2,Ext st ⟨(st.nx+1,o2)::(st.nx,o1)::st.h,st.nx+1+1⟩:=fun o1 o2=>((Ext.refl hwf).Zf (Nat.lt_succ_self _)).Zf (Nat.lt_succ_self _)
 exact⟨(z _ _).Zb,(hcr.ext (z _ _).Zb hwf)⟩
def Zzc (b:List UInt8) (o l:Int):List UInt8:=(b.drop o.toNat).take l.toNat
def Jn (hp:List Ce) (o:Ob):List UInt8×Int:=
 if Hc hp [6] o=0 then((match Zdl hp o.r with | some c=>Zzc c.b o.o o.l | none=>[]),0)else([],Hc hp [6] o)
theorem Zqq {hp:List Ce} {o:Ob} (h:Yz hp o=true) (hk:o.k=6):∃c,Zdl hp o.r=some c∧c.k=1∧0≤o.r∧0≤o.o∧0≤o.l∧o.o+o.l≤c.b.length∧o.o+o.l≤1000:=by
 simp only[Yz,Bool.and_eq_true]at h
 obtain⟨hc,h⟩:=h
 obtain⟨r0,r1,o0,l0,b⟩:=Zff hc (by rw[hk];decide)
 have h6:Znn o.k=1:=by rw[hk];rfl
 rw[h6]at h
 simp only[Int.reduceEq,decide_false,Bool.false_or]at h
 cases hcc:Zdl hp o.r with
 | none=>rw[hcc]at h;cases h
 | some c=>
   rw[hcc]at h
   simp only[hk,Int.reduceEq,decide_false,Bool.false_or,Bool.and_eq_true,decide_eq_true_eq]at h
   have:=h.2
   rw[Zgs,if_pos h.1]at this
   exact⟨c,rfl,h.1,r0,o0,l0,this,b⟩
theorem Zux (x:Int) (h:Heap) (n:Nat):RdI ((n,.cells 3 false [.int .i64 x])::h) (.slice n 0 1 (.known 1)) [x]:=
 .inr ⟨n,0,_,rfl,Lu (ty:=3) (l:=false) (cs:=Nw [x]) (by simp[Zg,Nw]) rfl⟩
theorem Mo (H:B.Wh T) (hwf:st.Wf) {v:AV} {hp:List Ce} (hv:HpR st.h v hp) (o:Ob):Z9 T st (.fn 357 [] []) [v,o.v] (.tuple [.str (Jn hp o).1,.int .i64 (Jn hp o).2]):=by
 refine Zm H.e H.f rfl ?_
 have x0:=((Ext.refl hwf).Zf (o:= .cells 451 true o.A) (Nat.lt_succ_self st.nx)).Zf (o:= .cells 3 false [.int .i64 6]) (Nat.lt_succ_self (st.nx+1))
 have vsc:=hv.sc
 simp[B.Kc,go_sem]
 refine(Zfa H.Xk x0.wf (hv.ext x0 hwf) o (Zux 6 _ _) (by decide)).use fun s1 x1=> ?_
 have k1:=x1.Zd
 have y1:=x0.trans x1
 have n1:=x1.nx
 simp only at k1 n1
 by_cases he:Hc hp [6] o=0
 ·have hfk:Yz hp o=true∧o.k=6:=by
   unfold Hc at he
   split at he
   ·split at he
    ·rename_i h1 h2
     exact⟨h1,by simpa using h2⟩
    ·cases he
   ·cases he
  obtain⟨c,hcc,hck,r0,o0,l0,hle,hb⟩:=Zqq hfk.1 hfk.2
  have y2:=y1.Zf (o:= .cells 554 true (v::o.A)) (Nat.lt_succ_self s1.nx)
  have y3:=y2.upN (m:=s1.nx+1+16) (by omega)
  have e1:Jn hp o=(Zzc c.b o.o o.l,0):=by simp[Jn,he,hcc]
  rw[e1]
  have d1:¬s1.nx=st.nx:=by omega
  simp (disch:=omega) [go_sem,k1,he,Zhj,vsc,d1]
  refine(Zad H.Vh y3.wf (hv.ext y3 hwf) r0 hcc).mono ?_
  rintro w s2 ⟨x2,x,rfl,hcr⟩
  have k2:=x2.Zd
  have y4:=y3.trans x2
  have n2:=x2.nx
  simp only at k2 n2
  obtain⟨p,q,r,rfl,h1,h2,h3⟩:=hcr.row
  have w3:IntKind.i64.wrap (o.o+o.l)=o.o+o.l:=Zo (by omega) (by omega)
  have e2:=Ziw (s:=c.b) (i:=o.o) (j:=o.o+o.l) (k:= .i64) (k':= .i64) o0 (by omega) hle
  have e3:(o.o+o.l).toNat - o.o.toNat=o.l.toNat:=by omega
  simp (disch:=omega) [go_sem,reI,wanted,k2,k1,w3,e2,e3,Zzc,d1]
  exact y4
 ·have e1:Jn hp o=([],Hc hp [6] o):=by simp[Jn,he]
  rw[e1]
  have y2:=y1.Zf (o:= .cells 554 true (.Zc::obZ.A)) (Nat.lt_succ_self s1.nx)
  simp (disch:=omega) [go_sem,k1,he,Zhj,obZ]
  exact y2
end Go.Ev

/- Heaps told: equality. -/
namespace Go.Ev
open Go
variable {T : Tab} {st : St}
theorem Br (a b:List UInt8):Uv a b=decide (a=b):=by
 by_cases h:a=b
 ·rw[decide_eq_true h,G5.2 h]
 ·rw[decide_eq_false h]
  cases q:Uv a b with
  | false=>rfl
  | true=>exact absurd (G5.1 q) h
theorem Wx {k:Kd} {ks:List Kd} {a b:AV} {x y:List AV} {e r:Bool} (h1:Qo k a b=some e) (h2:Qu ks x y=some r) (hx:x.length=ks.length) (hy:y.length=ks.length):Qu (k::ks) (a::x) (b::y)=some (e && r):=by
 simp only[Qu,h1]
 cases e with
 | true=>simpa using h2
 | false=>simp[hx,hy]
def Zv6:List Kd:=[.i .i64,.b,.i .i64,.s,.i .i64,.i .i64,.i .i64]
theorem eqOb (a b:Ob):Qu Zv6 a.A b.A=some (decide (a=b)):=by
 have hi:∀m n:Int,Qo (.i .i64) (.int .i64 m) (.int .i64 n)=some (decide (m=n)):=fun m n=>by simp[Qo]
 have hb:∀m n:Bool,Qo .b (.bool m) (.bool n)=some (decide (m=n)):=fun m n=>by cases m <;> cases n <;> rfl
 have hs:∀m n:List UInt8,Qo .s (.str m) (.str n)=some (decide (m=n)):=fun m n=>by simp[Qo,Br]
 have e:Qu Zv6 a.A b.A=some (decide (a.k=b.k) && (decide (a.x=b.x) && (decide (a.n=b.n) && (decide (a.t=b.t) && (decide (a.r=b.r) && (decide (a.o=b.o) && (decide (a.l=b.l) && true))))))):=
  Wx (hi _ _) (Wx (hb _ _) (Wx (hi _ _) (Wx (hs _ _) (Wx (hi _ _) (Wx (hi _ _) (Wx (hi _ _) rfl rfl rfl) rfl rfl) rfl rfl) rfl rfl) rfl rfl) rfl rfl) rfl rfl
 rw[e]
 congr 1
 obtain⟨a1,a2,a3,a4,a5,a6,a7⟩:=a
 obtain⟨b1,b2,b3,b4,b5,b6,b7⟩:=b
 simp only[Ob.mk.injEq,Bool.and_true,←Bool.decide_and]
def Tg (hp:List Ce) (o:Ob):List UInt8×Bool:=if o.k=5 then(o.t,true)else((Jn hp o).1,decide ((Jn hp o).2=0))
theorem Zez (H:B.Fu T) (hwf:st.Wf) {v:AV} {hp:List Ce} (hv:HpR st.h v hp) (o:Ob):Z9 T st (.fn 420 [] []) [v,o.v] (.tuple [.str (Tg hp o).1,.bool (Tg hp o).2]):=by
 refine Zm H.e H.f rfl ?_
 have x0:=(Ext.refl hwf).Zf (o:= .cells 451 true o.A) (Nat.lt_succ_self st.nx)
 by_cases h5:o.k=5
 ·simp[B.Xj,go_sem,Tg,h5];simpa [Ob.A,h5] using x0
 ·simp[B.Xj,go_sem,Tg,h5]
  refine(Mo H.Kc x0.wf (hv.ext x0 hwf) o).use fun s1 x1=> ?_
  have y1:=x0.trans x1
  simp (disch:=omega) [go_sem,y1]
def Np (hp:List Ce) (a b:Ob):Bool:=
 Yz hp a && (Yz hp b && (if(O6 a b).2=0 then decide ((O6 a b).1=0)else if((Tg hp a).2 && (Tg hp b).2)=true then decide ((Tg hp a).1=(Tg hp b).1)else decide ({a with x:=b.x}=b)))
theorem Zqn (H:B.Ol T) (hwf:st.Wf) {v:AV} {hp:List Ce} (hv:HpR st.h v hp) (a b:Ob):Z9 T st (.fn 387 [] []) [v,a.v,b.v] (.bool (Np hp a b)):=by
 refine Zm H.e H.f rfl ?_
 have x0:=((Ext.refl hwf).Zf (o:= .cells 451 true a.A) (Nat.lt_succ_self st.nx)).Zf (o:= .cells 451 true b.A) (Nat.lt_succ_self (st.nx+1))
 simp[B.Hi,go_sem]
 refine(O9 H.W9 x0.wf (hv.ext x0 hwf) a).use fun s1 x1=> ?_
 have k1:=x1.Zd
 have y1:=x0.trans x1
 have n1:=x1.nx
 simp only at k1 n1
 cases ha:Yz hp a with
 | false=>simp (disch:=omega) [go_sem,k1,Np,ha,y1]
 | true=>
 simp (disch:=omega) [go_sem,k1]
 refine(O9 H.W9 y1.wf (hv.ext y1 hwf) b).use fun s2 x2=> ?_
 have k2:=x2.Zd
 have y2:=y1.trans x2
 have n2:=x2.nx
 cases hb:Yz hp b with
 | false=>simp (disch:=omega) [go_sem,k2,k1,Np,ha,hb,y2]
 | true=>
 simp (disch:=omega) [go_sem,k2,k1]
 refine(Zgu H.Vj y2.wf a b).use fun s3 x3=> ?_
 have k3:=x3.Zd
 have y3:=y2.trans x3
 have n3:=x3.nx
 by_cases hc:(O6 a b).2=0
 ·simp (disch:=omega) [go_sem,k2,k1,Np,ha,hb,hc,y3]
 simp (disch:=omega) [go_sem,k3,k2,k1,hc]
 refine(Zez H.Xj y3.wf (hv.ext y3 hwf) a).use fun s4 x4=> ?_
 have k4:=x4.Zd
 have y4:=y3.trans x4
 have n4:=x4.nx
 simp (disch:=omega) [go_sem,k4,k3,k2,k1]
 refine(Zez H.Xj y4.wf (hv.ext y4 hwf) b).use fun s5 x5=> ?_
 have k5:=x5.Zd
 have y5:=y4.trans x5
 have n5:=x5.nx
 have e:Np hp a b=(if((Tg hp a).2 && (Tg hp b).2)=true then decide ((Tg hp a).1=(Tg hp b).1)else decide ({a with x:=b.x}=b)):=by simp[Np,ha,hb,hc]
 rw[e]
 have w:=eqOb {a with x:=b.x} b
 simp only[Zv6,Ob.A]at w
 have z:∀o,Ext st ⟨Z7 s5.h st.nx o,s5.nx⟩:=fun o=>Ext.Qw (st:=st) (h:=s5.h) (m:=s5.nx) (n:=st.nx) y5 (by omega)
 cases q1:(Tg hp a).2 with
 | false=>
   simp (disch:=omega) [go_sem,k5,k4,k3,k2,k1,q1,w]
   exact z _
 | true=>
   cases q2:(Tg hp b).2 with
   | true=>simp (disch:=omega) [go_sem,k5,k4,k3,k2,k1,q1,q2,Br,y5]
   | false=>
     simp (disch:=omega) [go_sem,k5,k4,k3,k2,k1,q1,q2,w]
     exact z _
end Go.Ev

/- Heaps told: parts of strings, and what is put into them. -/
namespace Go.Ev
open Go
variable {T : Tab} {st : St}
def Xb (o:Ob) (off n:Int):Ob×Int:=
 if Je o=true then(if o.k=6∨o.k=7∨o.k=8 then(if off<0∨n<0∨o.l<off∨o.l - off<n then(obZ,23)else({o with o:=o.o+off,l:=n},0))else(obZ,22))else(obZ,2)
theorem Zjx (H:B.E5 T) (hwf:st.Wf) (o:Ob) (off n:Int) (h0:0≤off) (h1:off<1000000000000) (h2:0≤n):Z9 T st (.fn 429 [] []) [o.v,.int .i64 off,.int .i64 n] (.tuple [(Xb o off n).1.v,.int .i64 (Xb o off n).2]):=by
 refine Zm H.e H.f rfl ?_
 have x0:=((Ext.refl hwf).Zf (o:= .cells 451 true o.A) (Nat.lt_succ_self st.nx)).Zf (o:= .cells 451 true B.zOb) (Nat.lt_succ_self (st.nx+1))
 simp[B.X9,go_sem]
 refine(Rw H.Qs x0.wf o).use fun s1 x1=> ?_
 have k1:=x1.Zd
 have y1:=x0.trans x1
 have n1:=x1.nx
 simp only at k1 n1
 have z1:=Ext.Qw (st:=st) (h:=s1.h) (m:=s1.nx) (n:=st.nx+1) (o:= .cells 451 true B.zOb) y1 (by omega)
 cases hc:Je o with
 | false=>simp (disch:=omega) [go_sem,k1,Em,Xb,hc,B.zOb,obZ];exact z1
 | true=>
 have hk:(o.k=6∨o.k=7∨o.k=8)∨¬(o.k=6∨o.k=7∨o.k=8):=by omega
 rcases hk with hk | hk
 ·have hr:=Zff hc (by rcases hk with e | e | e <;> rw[e] <;> decide)
  have e1:Xb o off n=if off<0∨n<0∨o.l<off∨o.l - off<n then(obZ,23)else({o with o:=o.o+off,l:=n},0):=by simp only[Xb,hc,if_true,if_pos hk]
  rw[e1]
  have c:decide (¬o.k=6∧¬o.k=7∧¬o.k=8)=false:=by simp;omega
  have w1:IntKind.i64.wrap (o.l - off)=o.l - off:=Zo (by omega) (by omega)
  have n0:¬off<0:=by omega
  have n2:¬n<0:=by omega
  by_cases h3:o.l<off
  ·have e2:(off<0∨n<0∨o.l<off∨o.l - off<n):=by omega
   rw[if_pos e2]
   rcases hk with e | e | e <;> simp (disch:=omega) [go_sem,k1,Em,B.zOb,obZ,eq_true e,show (6:Int)≠7 by decide,e,n0,n2,h3] <;> exact z1
  ·by_cases h4:o.l - off<n
   ·have e2:(off<0∨n<0∨o.l<off∨o.l - off<n):=by omega
    rw[if_pos e2]
    rcases hk with e | e | e <;> simp (disch:=omega) [go_sem,k1,Em,B.zOb,obZ,e,n0,n2,h3,h4,w1] <;> exact z1
   ·have e2:¬(off<0∨n<0∨o.l<off∨o.l - off<n):=by omega
    rw[if_neg e2]
    have w2:IntKind.i64.wrap (o.o+off)=o.o+off:=Zo (by omega) (by omega)
    have z2:∀p q r:Qb,Ext st ⟨Z7 (Z7 (Z7 s1.h st.nx p) st.nx q) (st.nx+1) r,s1.nx⟩:=fun p q r=>Ext.Qw (Ext.Qw (Ext.Qw (st:=st) (h:=s1.h) (m:=s1.nx) y1 (by omega)) (by omega)) (by omega)
    rcases hk with e | e | e <;> simp (disch:=omega) [go_sem,k1,Em,B.zOb,obZ,e,n0,n2,h3,h4,w1,w2] <;> exact z2 _ _ _
 ·have e1:Xb o off n=(obZ,22):=by simp only[Xb,hc,if_true,if_neg hk]
  rw[e1]
  have a1:¬o.k=6:=by omega
  have a2:¬o.k=7:=by omega
  have a3:¬o.k=8:=by omega
  simp (disch:=omega) [go_sem,k1,Em,B.zOb,obZ,a1,a2,a3];exact z1
def Ze4 (l at' n:Int):Int:=if at'<0∨l<at'∨l - at'<n then 23 else 0
theorem Zt8 (H:B.He T) (hwf:st.Wf) (v:AV) (vsc:v.sc=true) (o:Ob) (at' n:Int) (hl: -1000000≤o.l∧o.l≤1000000) (ha: -1000000≤at'∧at'≤1000000):Z9 T st (.fn 439 [] []) [.agg (v::o.A),.int .i64 at',.int .i64 n] (.int .i64 (Ze4 o.l at' n)):=by
 refine Zm H.e H.f rfl ?_
 have x0:=(Ext.refl hwf).Zf (o:= .cells 554 true (v::o.A)) (Nat.lt_succ_self st.nx)
 have w:IntKind.i64.wrap (o.l - at')=o.l - at':=Zo (by omega) (by omega)
 by_cases h1:at'<0
 ·simp (disch:=omega) [B.Yk,go_sem,Ze4,h1];exact x0
 by_cases h2:o.l<at'
 ·simp (disch:=omega) [B.Yk,go_sem,Ze4,h1,h2];exact x0
 by_cases h3:o.l - at'<n
 ·simp (disch:=omega) [B.Yk,go_sem,Ze4,h1,h2,h3,w];exact x0
 ·simp (disch:=omega) [B.Yk,go_sem,Ze4,h1,h2,h3,w];exact x0
def rep (b:List UInt8) (at':Nat) (s:List UInt8):List UInt8:=b.take at'++(s++b.drop (at'+s.length))
theorem Zabh {b s:List UInt8} {i:Nat} (h:i+s.length≤b.length):(rep b i s).length=b.length:=by simp[rep];omega
theorem Zku (H:B.Me T) (hwf:st.Wf) {b s:List UInt8} {n1 n2:Nat} (g1:Zh st.h n1=some (.buf 5 1 (u8s b))) (g2:Zh st.h n2=some (.buf 5 1 (u8s s))) (i:Nat) (hi:i+s.length≤b.length) (hb:b.length<1000000000):
  Qt (call T (.fn 440 [] []) [.slice n1 0 b.length .full,.int .i64 i,.slice n2 0 s.length .full] st) fun w q=>Ext st q∧∃m,w= .slice m 0 b.length (.known b.length)∧Zh q.h m=some (.cells 5 false (u8s (rep b i s))):=by
 refine Zw H.e H.f rfl ?_
 have l1:=hwf.lt _ _ g1
 have l2:=hwf.lt _ _ g2
 have d1:¬st.nx=n1:=by omega
 have d2:¬st.nx=n2:=by omega
 have o1:(u8s b).length=b.length:=by simp[u8s]
 have o2:(u8s s).length=s.length:=by simp[u8s]
 have r0:∀n,(Bn [AV.int .u8 0] n).length=n:=by intro n;induction n with | zero=>rfl | succ n ih=>simp[Bn,ih]
 have t1:(u8s b).take b.length=u8s b:=Xh o1
 have t2:(u8s s).take s.length=u8s s:=Xh o2
 have a1:(u8s b).all AV.sc=true:=by simp[u8s,AV.sc]
 have bl:(b.length:Int)≤140737488355328:=by omega
 have sp1:Qd (Bn [AV.int .u8 0] b.length) 0 (u8s b)=u8s b:=Z8 (by rw[o1,r0])
 have a2:(u8s s).all AV.sc=true:=by simp[u8s,AV.sc]
 by_cases hib:b.length - i=0
 ·have hs:s=[]:=List.length_eq_zero_iff.1 (by omega)
  subst hs
  have hr:rep b i []=b:=by simp[rep]
  rw[hr]
  simp (disch:=omega) [B.Ky,go_sem,Vl,g1,g2,d1,d2,o1,o2,r0,t1,bl,sp1,a1,X1,Kw,bnd,Yc,X6,X0,hib,show u8s []=[]from rfl,show i≤b.length by omega]
  have x:=(Ext.refl hwf).Zf (o:= .cells 5 false (u8s b)) (Nat.lt_succ_self st.nx)
  exact⟨x.Zb,Qh (st:=⟨(st.nx,.cells 5 false (u8s b))::st.h,st.nx+1⟩) x.wf (by simp[Zg]) rfl⟩
 ·have sp2:Qd (u8s b) i (u8s s)=u8s (rep b i s):=by
   have h1:u8s b=u8s (b.take i)++(u8s ((b.drop i).take s.length)++u8s (b.drop (i+s.length))):=by
    simp only[u8s,←List.map_append]
    congr 1
    rw[←List.drop_drop,List.take_append_drop,List.take_append_drop]
   have h2:=Zc3 (u8s s) (u8s ((b.drop i).take s.length)) (u8s (b.drop (i+s.length))) (u8s (b.take i)) (by simp[u8s];omega)
   rw[←h1,show (u8s (b.take i)).length=i by simp[u8s];omega]at h2
   rw[h2]
   simp[rep,u8s]
  obtain⟨z,hz⟩:∃z,b.length - i=z+1:=⟨b.length - i - 1,by omega⟩
  rw[hz]at hib
  have t3:(u8s s).take (min s.length (z+1))=u8s s:=List.take_of_length_le (by omega)
  simp (disch:=omega) [B.Ky,go_sem,Vl,g1,g2,d1,d2,o1,o2,r0,t1,t2,t3,bl,sp1,sp2,a1,a2,X1,Kw,bnd,Yc,X6,X0,hz,show i≤b.length by omega,hi]
  have x:=(Ext.refl hwf).Zf (o:= .cells 5 false (u8s (rep b i s))) (Nat.lt_succ_self st.nx)
  exact⟨x.Zb,Qh (st:=⟨(st.nx,.cells 5 false (u8s (rep b i s)))::st.h,st.nx+1⟩) x.wf (by simp[Zg]) rfl⟩
theorem HpR.made {h:Heap} {m ty k:Nat} {cs:List AV} {l:List Ce} (hg:Zh h m=some (.cells ty false cs)) (hc:U2 h l cs) (hk:k=l.length):HpR h (.slice m 0 k (.known k)) l:=by
 subst hk
 exact⟨cs,hc,hc.len,.inr ⟨m,0,_,rfl,Nat.le_refl _,⟨_,hg,rfl⟩,Lu hg hc.len⟩⟩
theorem RdO.made {h:Heap} {m ty k:Nat} {l:List Ob} (hg:Zh h m=some (.cells ty false (Ku l))) (hk:k=l.length):RdO h (.slice m 0 k (.known k)) l:=by
 subst hk
 exact⟨Gz l,.inr ⟨m,0,_,rfl,Nat.le_refl _,⟨_,hg,rfl⟩,Lu hg (Gz l)⟩⟩
theorem Zk6 (H:B.Hf T) (hwf:st.Wf) {v:AV} {hp:List Ce} (hv:HpR st.h v hp) {o:Ob} {c:Ce} {x:List AV} (hr:0≤o.r) (hl:o.r<(hp.length:Int)) (hb:hp.length<1000000000) (hc:CeR st.h c x):
  Qt (call T (.fn 441 [] []) [.agg (v::o.A),.agg x] st) fun w s=>Ext st s∧HpR s.h w (hp.set o.r.toNat c):=by
 refine Zw H.e H.f rfl ?_
 obtain⟨cs,hcs,hv2⟩:=hv
 rcases hv2.form hwf with ⟨rfl,h0,rfl⟩ | ⟨n,off,cp,ob,rfl,hcp,hlt,hg,how,hrd⟩
 ·omega
 have d1:¬st.nx+1=n:=by omega
 have d2:¬st.nx=n:=by omega
 have d3:¬st.nx+1+1=st.nx:=by omega
 have d4:¬st.nx+1+1=st.nx+1:=by omega
 have d5:¬st.nx+1+1=n:=by omega
 have hsc:=hcs.sc
 have hxsc:=hc.sc
 have hxl:=hc.len
 have hcl:=hcs.len
 have r0:∀n,(Bn B.zCe n).length=n*7:=by intro n;induction n with | zero=>rfl | succ n ih=>rw[Bn,List.length_append,ih,show B.zCe.length=7 from rfl];omega
 have t1:cs.take (hp.length*7)=cs:=Xh hcl
 have bl:(hp.length:Int)*112≤140737488355328:=by omega
 have bl2:(hp.length:Int)≤140737488355328:=by omega
 have sp1:Qd (Bn B.zCe hp.length) 0 cs=cs:=Z8 (by rw[r0,hcl])
 have hnew:=hcs.put hc (i:=o.r.toNat) (by omega)
 have hnl:(Qd cs (o.r.toNat*7) x).length=hp.length*7:=by have:=hnew.len;rwa[List.length_set]at this
 obtain⟨p,q,r,rfl,h1,h2,h3⟩:=hc.row
 simp only[List.all_cons,List.all_nil,Bool.and_eq_true]at hxsc
 simp (disch:=omega) [B.Xa,go_sem,Vl,hg,d1,d2,d3,d4,d5,hrd,r0,hcl,hsc,t1,bl,bl2,sp1,hr,hl,show B.zCe.length=7 from rfl,hxsc,show o.r.toNat*7+7≤hp.length*7 by omega]
 simp only[Qd]at hnew
 generalize hY:(((((((cs.set (o.r.toNat*7) (AV.int .i64 c.k)).set (o.r.toNat*7+1) (AV.str c.b)).set (o.r.toNat*7+1+1) p).set (o.r.toNat*7+1+1+1) q).set (o.r.toNat*7+1+1+1+1) r).set (o.r.toNat*7+1+1+1+1+1) (AV.int .i64 c.mx)).set (o.r.toNat*7+1+1+1+1+1+1) (AV.int .i64 c.at'))=Y at hnew⊢
 have z:∀o1 o2 o3,Ext st ⟨(st.nx+1+1,o3)::(st.nx+1,o2)::(st.nx,o1)::st.h,st.nx+1+1+1⟩:=fun o1 o2 o3=>(((Ext.refl hwf).Zf (Nat.lt_succ_self _)).Zf (Nat.lt_succ_self _)).Zf (Nat.lt_succ_self _)
 exact⟨(z _ _ _).Zb,HpR.Zb (HpR.made (ty:=486) (cs:=Y) (by simp[Zg]) (hnew.ext (z _ _ _) hwf) (by simp)) (z _ _ _).wf⟩
end Go.Ev

/- Heaps told: octets put into a string. -/
namespace Go.Ev
open Go
variable {T : Tab} {st : St}
def Zme (hp:List Ce) (o:Ob) (at':Int) (s:List UInt8):Int:=if Hc hp [6] o=0 then Ze4 o.l at' s.length else Hc hp [6] o
def Zyv (hp:List Ce) (o:Ob) (at':Int) (s:List UInt8):List Ce:=
 match Zdl hp o.r with
 | some c=>hp.set o.r.toNat {c with b:=rep c.b (o.o+at').toNat s}
 | none=>hp
def HpS (hp:List Ce):Prop:=hp.length<1000000∧∀c∈hp,c.b.length<1000000
theorem Zw5 {hp:List Ce} {k:Int} {o:Ob} (he:Hc hp [k] o=0):Yz hp o=true∧o.k=k:=by
 unfold Hc at he
 split at he
 ·split at he
  ·rename_i h1 h2
   exact⟨h1,by simpa using h2⟩
  ·cases he
 ·cases he
theorem Zpg (H:B.E6 T) (hwf:st.Wf) {v:AV} {hp:List Ce} (hv:HpR st.h v hp) (hs:HpS hp) (o:Ob) (at':Int) (h0:0≤at') (h1:at'≤1000000) (s:List UInt8) (hsl:s.length<1000000000):
  Qt (call T (.fn 430 [] []) [v,o.v,.int .i64 at',.str s] st) fun w q=>Ext st q∧((Zme hp o at' s≠0∧w= .tuple [.Zc,.int .i64 (Zme hp o at' s)])∨(Zme hp o at' s=0∧∃v',w= .tuple [v',.int .i64 0]∧HpR q.h v' (Zyv hp o at' s))):=by
 refine Zw H.e H.f rfl ?_
 have x0:=((Ext.refl hwf).Zf (o:= .cells 451 true o.A) (Nat.lt_succ_self st.nx)).Zf (o:= .cells 3 false [.int .i64 6]) (Nat.lt_succ_self (st.nx+1))
 have vsc:=hv.sc
 simp[B.La,go_sem]
 refine(Zfa H.Xk x0.wf (hv.ext x0 hwf) o (Zux 6 _ _) (by decide)).use fun s1 x1=> ?_
 have k1:=x1.Zd
 have y1:=x0.trans x1
 have n1:=x1.nx
 simp only at k1 n1
 have d1:¬s1.nx=st.nx:=by omega
 by_cases he:Hc hp [6] o=0
 rotate_left
 ·have y2:=y1.Zf (o:= .cells 554 true (.Zc::obZ.A)) (Nat.lt_succ_self s1.nx)
  have e1:Zme hp o at' s=Hc hp [6] o:=by simp[Zme,he]
  rw[e1]
  simp (disch:=omega) [go_sem,k1,he,Zhj,obZ,d1]
  exact y2.Zb
 obtain⟨hf,hk⟩:=Zw5 he
 obtain⟨c,hcc,hck,r0,o0,l0,hle,hb⟩:=Zqq hf hk
 have y2:=y1.Zf (o:= .cells 554 true (v::o.A)) (Nat.lt_succ_self s1.nx)
 have e1:Zme hp o at' s=Ze4 o.l at' s.length:=by simp[Zme,he]
 rw[e1]
 simp (disch:=omega) [go_sem,k1,he,Zhj,vsc,d1]
 refine(Zt8 H.Yk y2.wf v vsc o at' s.length (by omega) (by omega)).use fun s2 x2=> ?_
 have k2:=x2.Zd
 have y3:=y2.trans x2
 have n2:=x2.nx
 simp only at k2 n2
 by_cases hr:Ze4 o.l at' s.length=0
 rotate_left
 ·simp (disch:=omega) [go_sem,k2,k1,hr]
  exact y3.Zb
 have hroom:at'≤o.l∧(s.length:Int)≤o.l - at':=by
  unfold Ze4 at hr
  split at hr
  ·cases hr
  ·omega
 simp (disch:=omega) [go_sem,k2,k1,hr,d1]
 refine(Zad H.Vh y3.wf (hv.ext y3 hwf) r0 hcc).mono ?_
 rintro w s3 ⟨x3,x,rfl,hcr⟩
 have k3:=x3.Zd
 have y4:=y3.trans x3
 have n3:=x3.nx
 obtain⟨p,q,r,rfl,f1,f2,f3⟩:=hcr.row
 have hsc:=hcr.sc
 simp only[List.all_cons,List.all_nil,Bool.and_eq_true]at hsc
 obtain⟨i,hi⟩:∃i:Nat,o.o+at'=(i:Int):=⟨(o.o+at').toNat,by omega⟩
 have w1:IntKind.i64.wrap (o.o+at')=(i:Int):=by rw[Zo (by omega) (by omega)];exact hi
 have hph:Zyv hp o at' s=hp.set o.r.toNat {c with b:=rep c.b i s}:=by simp only[Zyv,hcc,hi,Int.toNat_natCast]
 rw[hph]
 have d2:¬s3.nx=st.nx:=by omega
 have d3:¬s3.nx=s1.nx:=by omega
 have d4:¬s3.nx+1=st.nx:=by omega
 have d5:¬s3.nx+1=s1.nx:=by omega
 have d6:¬s3.nx+1+1=st.nx:=by omega
 have d7:¬s3.nx+1+1=s1.nx:=by omega
 have y5:Ext st ⟨(s3.nx+1+1,.buf 5 1 (u8s s))::(s3.nx+1,.buf 5 1 (u8s c.b))::(s3.nx,.cells 486 true [.int .i64 c.k,.str c.b,p,q,r,.int .i64 c.mx,.int .i64 c.at'])::s3.h,s3.nx+1+1+1⟩:=
  ((y4.Zf (Nat.lt_succ_self _)).Zf (Nat.lt_succ_self _)).Zf (Nat.lt_succ_self _)
 simp (disch:=omega) [go_sem,k3,k2,k1,hsc,w1,d1,d2,d3,d4,d5,d6,d7,B.zCe]
 have hcm:c∈hp:=List.mem_of_getElem? hcc
 refine(Zku H.Ky y5.wf (b:=c.b) (s:=s) (n1:=s3.nx+1) (n2:=s3.nx+1+1) (by simp[Zg]) (by simp[Zg]) i (by omega) (by have:=hs.2 c hcm;omega)).mono ?_
 rintro w s4 ⟨x4,m,rfl,hm⟩
 have k4:=x4.Zd
 have y6:=y5.trans x4
 have n4:=x4.nx
 simp only at k4 n4
 have rl:(rep c.b i s).length=c.b.length:=Zabh (by omega)
 have t1:(u8s (rep c.b i s)).take c.b.length=u8s (rep c.b i s):=Xh (by rw[Zas,rl])
 simp (disch:=omega) [go_sem,k4,k3,k2,k1,hm,Zas,rl,t1,E4,d1,d2,d3,d4,d5,d6,d7,show¬s3.nx+1+1=s3.nx by omega]
 have y7:Ext st ⟨Z7 s4.h s3.nx (.cells 486 true [.int .i64 c.k,.str (rep c.b i s),p,q,r,.int .i64 c.mx,.int .i64 c.at']),s4.nx⟩:=Ext.Qw (st:=st) (h:=s4.h) (m:=s4.nx) y6 (by omega)
 have hcr2:CeR (Z7 s4.h s3.nx (.cells 486 true [.int .i64 c.k,.str (rep c.b i s),p,q,r,.int .i64 c.mx,.int .i64 c.at'])) {c with b:=rep c.b i s} [.int .i64 c.k,.str (rep c.b i s),p,q,r,.int .i64 c.mx,.int .i64 c.at']:=by
  have xx:=Ext.Qw (st:=s3) (h:=s4.h) (m:=s4.nx) (n:=s3.nx) (o:= .cells 486 true [.int .i64 c.k,.str (rep c.b i s),p,q,r,.int .i64 c.mx,.int .i64 c.at']) (((((Ext.refl y4.wf).Zf (Nat.lt_succ_self _)).Zf (Nat.lt_succ_self _)).Zf (Nat.lt_succ_self _)).trans x4) (Nat.le_refl _)
  exact⟨p,q,r,rfl,f1.ext xx y4.wf,f2.ext xx y4.wf,f3.ext xx y4.wf⟩
 refine(Zk6 H.Xa y7.wf (hv.ext y7 hwf) (o:=o) r0 (by have:=(List.getElem?_eq_some_iff.1 hcc).1;omega) (by have:=hs.1;omega) hcr2).mono ?_
 rintro w s5 ⟨x5,hw⟩
 simp (disch:=omega) [go_sem]
 exact⟨(y7.trans x5).Zb,hw.Zb x5.wf⟩
end Go.Ev

/- States told: the operand stack. -/
namespace Go.Ev
open Go
variable {T : Tab} {st : St}
def Znd (v:AV):Prop:=v= .Zc∨∃n off k,v= .slice n off k (.known k)
theorem Zsv (es n off len:Nat) (cp:Cap) (hi mx:Option AV):X1 es n off len cp none hi mx=X1 es n off len cp (some (.int .i64 0)) hi mx:=by
 unfold X1 Kw
 cases mx with
 | none=>
   simp only[bnd]
   cases hi with
   | none=>simp[Yc]
   | some v=>cases Yc v (X6 len cp) <;> simp[Yc]
 | some v=>
   cases Yc v (X6 len cp)with
   | none=>rfl
   | some m=>
     cases hi with
     | none=>rfl
     | some u=>cases hq:Yc u m <;> simp[hq,bnd,Yc]
theorem Zxl {len:Nat} {cp:Cap} (hcp:Zc9 len cp) {i j:Int} (h0:0≤i) (h1:i≤j) (h2:j≤len):Kw len (X6 len cp) (some (.int .i64 i)) (some (.int .i64 j)) (some (.int .i64 j))=some (i.toNat,j.toNat,some j.toNat):=by
 have ht:j≤(X6 len cp:Nat):=by
  cases cp with
  | known c=>simp only[Zc9]at hcp;simp only[X6];omega
  | _=>simp only[X6];omega
 simp only[Kw,Yc,bnd]
 rw[if_pos ⟨by omega,ht⟩]
 simp only
 rw[if_pos ⟨by omega,by omega⟩]
 simp only
 rw[if_pos ⟨by omega,by omega⟩]
theorem RdO.cut {n off:Nat} {cp:Cap} {l:List Ob} (a:RdO st.h (.slice n off l.length cp) l) {i j:Int} (h0:0≤i) (h1:i≤j) (h2:j≤l.length):
  ∃v',X1 7 n off l.length cp (some (.int .i64 i)) (some (.int .i64 j)) (some (.int .i64 j))=some v'∧Znd v'∧RdO st.h v' ((l.drop i.toNat).take (j.toNat - i.toNat)):=by
 have hs:=RdS.sub3 a (ev:=AO.ev [(0,.slice n off l.length cp),(1,.int .i64 i),(2,.int .i64 j)]) (x:= .t 0) (lo:= .t 1) (hi:= .t 2) (by simp[go_sem]) (by simp[go_sem]) (by simp[go_sem]) h0 h1 h2
 obtain⟨v',h3,h4⟩:=hs
 simp[go_sem]at h3
 have hl:j.toNat - i.toNat=((l.drop i.toNat).take (j.toNat - i.toNat)).length:=by simp;omega
 have hcp:Zc9 l.length cp:=by
  obtain⟨_,⟨h1,h2⟩ | ⟨n',off',cp',h1,h2,_⟩⟩:=a
  ·cases h1
  ·injection h1 with e1 e2 e3 e4;subst e4;exact h2
 refine⟨v',h3,?_,?_⟩
 ·unfold X1 at h3
  rw[Zxl hcp h0 h1 h2]at h3
  simp only[X0]at h3
  split at h3
  ·rename_i e;injection e with e;injection h3 with h3;subst h3;rw[e];exact .inr ⟨_,_,_,rfl⟩
  ·rename_i c _ e;injection e with e;injection h3 with h3;subst h3;rw[←e];exact .inr ⟨_,_,_,rfl⟩
  ·rename_i e;cases e
  ·rename_i e;cases e
 ·have:Ku ((l.drop i.toNat).take (j.toNat - i.toNat))=((Ku l).drop (i.toNat*7)).take ((j.toNat - i.toNat)*7):=by rw[Zgg,Zgh]
  unfold RdO
  rw[this,←hl]
  exact h4
theorem Ext.same {n:Nat} {o:Qb} (h:st.Wf) (hg:Zh st.h n=some o):Ext st ⟨Z7 st.h n o,st.nx⟩:=by
 refine⟨Nat.le_refl _,(Frm.set (o:=o) h hg).wf,fun m hm=> ?_⟩
 simp only[Qm]
 split
 ·rename_i e;subst e;rw[hg];rfl
 ·rfl
theorem Zsu (hwf:st.Wf) {v x:AV} {l k:List Ob} (hc:Znd v) (a:RdO st.h v l) (b:RdO st.h x k) (hb:l.length+k.length<1000000000):Qt (Vf 451 7 64 st v x) fun w s=>Ext st s∧RdO s.h w (l++k):=by
 have hsrc:=(RdS.rd b).src
 unfold Vf
 rw[hsrc]
 simp only
 rcases hc with rfl | ⟨n,off,q,rfl⟩
 ·have hl:l=[]:=by
   obtain⟨h0,⟨h1,h2⟩ | ⟨n,off,cp,h1,_⟩⟩:=a
   ·exact List.length_eq_zero_iff.1 h2
   ·cases h1
  subst hl
  simp only
  split
  ·rename_i h0
   have:k=[]:=List.length_eq_zero_iff.1 h0
   subst this
   exact⟨Ext.refl hwf,.nil _⟩
  ·rw[if_pos (by simp at hb;omega)]
   refine⟨Ext.new hwf _,?_⟩
   exact⟨Gz _,.inr ⟨st.nx,0,.full,by simp,trivial,⟨.buf 451 7 _,by simp[Zg];rfl,rfl⟩,by simp[Qg,Zg,Gz];rw[Xh];simp[Gz]⟩⟩
 ·have hq:q=l.length:=by
   obtain⟨h0,⟨h1,h2⟩ | ⟨n',off',cp,h1,_⟩⟩:=a
   ·cases h1
   ·injection h1
  subst hq
  simp only
  rw[if_pos (by omega)]
  obtain⟨h0,⟨h1,h2⟩ | ⟨n',off',cp,h1,h2,⟨o,h3,h3'⟩,h4⟩⟩:=id a
  ·cases h1
  injection h1 with e1 e2 e3 e4
  subst e1 e2 e4
  split
  ·rename_i hle
   have:k=[]:=List.length_eq_zero_iff.1 (by omega)
   subst this
   have hoff:off+0≤match o with | .cells _ _ cs=>cs.length | .buf _ _ cs=>cs.length | _=>0:=by
    unfold Qg at h4
    rw[h3]at h4
    cases o <;> simp[Qb.ow]at h3' <;> simp at h4 <;> simp <;> omega
   have hx:Ext st ⟨Z7 st.h n o,st.nx⟩:=Ext.same hwf h3
   have hw:Jy st.h n (off+l.length*7) (Ku [])=some (Z7 st.h n o):=by
    unfold Jy Qg at*
    rw[h3]at h4⊢
    cases o with
    | cells ty loc cs=>
      simp only at h4⊢
      split at h4
      ·rename_i hle2
       rw[if_pos ⟨by simpa [Ku] using hle2,rfl⟩]
       rfl
      ·cases h4
    | buf ty es cs=>
      simp only at h4⊢
      split at h4
      ·rename_i hle2
       rw[if_pos ⟨by simpa [Ku] using hle2,rfl⟩]
       rfl
      ·cases h4
    | _=>simp[Qb.ow]at h3'
   rw[hw]
   simp only[List.append_nil,List.length_nil,Nat.add_zero]
   exact⟨hx,RdO.ext a hx hwf⟩
  ·rw[h4]
   simp only
   refine⟨Ext.new hwf _,?_⟩
   rw[←E1]
   exact⟨Gz _,.inr ⟨st.nx,0,.full,by simp,trivial,⟨.buf 451 7 _,by simp[Zg];rfl,rfl⟩,by simp[Qg,Zg,Gz];rw[Xh];simp[Gz]⟩⟩
def Zk3 (es:Nat) (v:AV) (lo hi mx:Option AV):Option AV:=
 match v with
 | .slice n o ln cp=>X1 es n o ln cp lo hi mx
 | .Zc=>match X1 es 0 0 0 (.known 0) lo hi mx with | some _=>some .Zc | none=>none
 | _=>none
def Y0:AV→Option AV
 | .slice _ _ n _=>some (.int .i64 n)
 | .Zc=>some (.int .i64 0)
 | _=>none
def Pq (es:Nat) (v i:AV):Option AV:=
 match v,i with
 | .slice n o ln _,.int _ j=>if 0≤j∧j<(ln:Int)then some (.ptr n (o+j.toNat*es))else none
 | _,_=>none
theorem Znh (ev:AO→AV) (es:Nat) (x:AO) (lo hi mx:Option AO):PO.run ev (.Zia es x lo hi mx)=Zk3 es (ev x) (lo.map ev) (hi.map ev) (mx.map ev):=by
 cases hx:ev x <;> simp only[PO.run,Zk3,hx]
 cases X1 es 0 0 0 (.known 0) (lo.map ev) (hi.map ev) (mx.map ev) <;> rfl
theorem Qy (ev:AO→AV) (x:AO):PO.run ev (.lenOf false x)=Y0 (ev x):=by
 cases hx:ev x <;> simp[PO.run,Y0,hx]
theorem Zp (ev:AO→AV) (es:Nat) (x i:AO):PO.run ev (.Zu es x i)=Pq es (ev x) (ev i):=by
 cases hx:ev x <;> cases hi:ev i <;> simp only[PO.run,Pq,hx,hi]
theorem Zk4 (es:Nat) (v:AV) (hi mx:Option AV):Zk3 es v none hi mx=Zk3 es v (some (.int .i64 0)) hi mx:=by
 unfold Zk3
 cases v <;> simp only[Zsv]
theorem RdS.Y0 {es:Nat} {h:Heap} {v:AV} {k:Nat} {cs:List AV} (a:RdS es h v k cs):Go.Ev.Y0 v=some (.int .i64 k):=by
 obtain⟨h0,⟨h1,h2⟩ | ⟨n,off,cp,h1,h2,h3,h4⟩⟩:=a
 ·rw[h1,h2];rfl
 ·rw[h1];rfl
theorem RdO.Y0 {h:Heap} {v:AV} {l:List Ob} (a:RdO h v l):Go.Ev.Y0 v=some (.int .i64 l.length):=RdS.Y0 a
theorem HpR.Y0 {h:Heap} {v:AV} {l:List Ce} (a:HpR h v l):Go.Ev.Y0 v=some (.int .i64 l.length):=by
 obtain⟨cs,_,a⟩:=a
 exact RdS.Y0 a
theorem RdO.sub {v:AV} {l:List Ob} (a:RdO st.h v l) {i j:Int} (h0:0≤i) (h1:i≤j) (h2:j≤l.length):
  ∃v',Zk3 7 v (some (.int .i64 i)) (some (.int .i64 j)) (some (.int .i64 j))=some v'∧Znd v'∧RdO st.h v' ((l.drop i.toNat).take (j.toNat - i.toNat)):=by
 obtain⟨h3,⟨rfl,h4⟩ | ⟨n,off,cp,rfl,h5⟩⟩:=id a
 ·have hl:l=[]:=List.length_eq_zero_iff.1 h4
  subst hl
  have hi:i=0:=by simp at h2;omega
  have hj:j=0:=by simp at h2;omega
  subst hi hj
  exact⟨.Zc,by simp[Zk3,X1,Kw,Yc,bnd,X6,X0],.inl rfl,by simpa using a⟩
 ·exact a.cut h0 h1 h2
theorem RdO.acc {v:AV} {l:List Ob} (a:RdO st.h v l) (hw:st.Wf):∃n off ob,∀(i:Int) o,0≤i→l[i.toNat]? =some o→n<st.nx∧Zh st.h n=some ob∧Pq 7 v (.int .i64 i)=some (.ptr n (off+i.toNat*7))∧A4 ob (off+i.toNat*7) 7=some o.A:=by
 rcases a.form hw with ⟨rfl,rfl⟩ | ⟨n,off,cp,ob,rfl,hcp,hlt,hg,how,hat⟩
 ·exact⟨0,0,.ro [],fun i o hi ho=>by simp at ho⟩
 ·refine⟨n,off,ob,fun i o hi ho=>⟨hlt,hg,?_,hat _ _ ho⟩⟩
  have:=(List.getElem?_eq_some_iff.1 ho).1
  simp only[Pq]
  rw[if_pos ⟨hi,by omega⟩]
theorem HpR.acc {v:AV} {l:List Ce} (a:HpR st.h v l) (hw:st.Wf):∃n off ob,∀(i:Int) c,0≤i→l[i.toNat]? =some c→n<st.nx∧Zh st.h n=some ob∧Pq 7 v (.int .i64 i)=some (.ptr n (off+i.toNat*7))∧∃x,A4 ob (off+i.toNat*7) 7=some x∧CeR st.h c x:=by
 rcases a.form hw with ⟨rfl,rfl⟩ | ⟨n,off,cp,ob,rfl,hcp,hlt,hg,how,hat⟩
 ·exact⟨0,0,.ro [],fun i o hi ho=>by simp at ho⟩
 ·refine⟨n,off,ob,fun i o hi ho=>⟨hlt,hg,?_,hat _ _ ho⟩⟩
  have:=(List.getElem?_eq_some_iff.1 ho).1
  simp only[Pq]
  rw[if_pos ⟨hi,by omega⟩]
theorem RdS.Z7 {es:Nat} {h:Heap} {v:AV} {k n:Nat} {cs:List AV} {o o':Qb} (a:RdS es h v k cs) (hg:Zh h n=some o) (ho:o.ow=false):RdS es (Z7 h n o') v k cs:=by
 obtain⟨h0,⟨h1,h2⟩ | ⟨m,off,cp,h1,h2,⟨p,h3,h3'⟩,h4⟩⟩:=a
 ·exact⟨h0,.inl ⟨h1,h2⟩⟩
 ·have hne:¬n=m:=by rintro rfl;rw[hg]at h3;injection h3 with h3;subst h3;rw[ho]at h3';cases h3'
  have e:Zh (Go.Ev.Z7 h n o') m=Zh h m:=by rw[Qm,if_neg hne]
  refine⟨h0,.inr ⟨m,off,cp,h1,h2,⟨p,by rw[e,h3],h3'⟩,?_⟩⟩
  unfold Qg at h4⊢
  rw[e]
  exact h4
theorem RdO.Z7 {h:Heap} {v:AV} {l:List Ob} {n:Nat} {o o':Qb} (a:RdO h v l) (hg:Zh h n=some o) (ho:o.ow=false):RdO (Go.Ev.Z7 h n o') v l:=RdS.Z7 a hg ho
theorem CeR.Z7 {h:Heap} {c:Ce} {cs:List AV} {n:Nat} {o o':Qb} (a:CeR h c cs) (hg:Zh h n=some o) (ho:o.ow=false):CeR (Go.Ev.Z7 h n o') c cs:=by
 obtain⟨p,q,r,h0,h1,h2,h3⟩:=a
 exact⟨p,q,r,h0,h1.Z7 hg ho,h2.Z7 hg ho,h3.Z7 hg ho⟩
theorem U2.Z7 {h:Heap} {n:Nat} {o o':Qb} (hg:Zh h n=some o) (ho:o.ow=false):∀{l:List Ce} {cs:List AV},U2 h l cs→U2 (Go.Ev.Z7 h n o') l cs
 | [],_,a=>a
 | c::l,_,⟨y,r,e,h1,h2⟩=>⟨y,r,e,h1.Z7 hg ho,U2.Z7 hg ho h2⟩
theorem HpR.Z7 {h:Heap} {v:AV} {l:List Ce} {n:Nat} {o o':Qb} (a:HpR h v l) (hg:Zh h n=some o) (ho:o.ow=false):HpR (Go.Ev.Z7 h n o') v l:=by
 obtain⟨cs,h1,h2⟩:=a
 exact⟨cs,h1.Z7 hg ho,h2.Z7 hg ho⟩
theorem Zgk {v:AV} (h:v.sc=true):Yg v=[v]:=by cases v <;> first | rfl | cases h
end Go.Ev

/- States told: Push, Top, Drop. -/
namespace Go.Ev
open Go
variable {T : Tab} {st st' : St}
structure Rest (v1:AV) (r:List AV):Prop where
 sc:v1.sc=true
 len:r.length=64
 all:r.all AV.sc=true
theorem Rest.take {v1:AV} {r:List AV} (a:Rest v1 r):r.take 64=r:=Xh a.len
theorem Rest.Yn {v1:AV} {r:List AV} (a:Rest v1 r) (v0 v2:AV):(v0::v1::v2::r).length=67:=by simp[a.len]
theorem Zk:B.Qi.length=67:=rfl
theorem Zrt (H:B.Gp T) (hwf:st.Wf) {v0 v1 v2:AV} {r:List AV} (hR:Rest v1 r) {ops l:List Ob} {hp:List Ce} (r0:RdO st.h v0 ops) (r2:HpR st.h v2 hp) {vl:AV} (hl:RdO st.h vl l) (hb:ops.length<1000000∧l.length<1000000):
  Qt (call T (.fn 344 [] []) [.agg (v0::v1::v2::r),vl] st) fun w s=>Ext st s∧((100<ops.length+l.length∧w= .tuple [.agg (v0::v1::v2::r),.int .i64 21])∨(ops.length+l.length≤100∧∃v',w= .tuple [.agg (v'::v1::v2::r),.int .i64 0]∧RdO s.h v' (ops++l))):=by
 refine Zw H.e H.f rfl ?_
 have hlen:=hR.len
 have ht:=hR.take
 have s0:=RdS.sc r0
 have s1:=hR.sc
 have s2:=r2.sc
 have sr:=hR.all
 have z1:∀v,Qd B.Qi 0 (v::v1::v2::r)=v::v1::v2::r:=fun v=>Z8 (by rw[hR.Yn,Zk])
 have x0:∀o1 o2,Ext st ⟨(st.nx+1,o2)::(st.nx,o1)::st.h,st.nx+1+1⟩:=fun o1 o2=>((Ext.refl hwf).Zf (Nat.lt_succ_self _)).Zf (Nat.lt_succ_self _)
 have wadd:IntKind.i64.wrap ((ops.length:Int)+l.length)=((ops.length+l.length:Nat):Int):=by rw[Zo (by omega) (by omega)];simp
 have l0:=r0.Y0
 have l1:=hl.Y0
 by_cases hgt:100<ops.length+l.length
 ·have hgt':(100:Int)<(ops.length:Int)+(l.length:Int):=by omega
  simp (disch:=omega) [B.Uw,go_sem,↓Qy,l0,l1,hlen,ht,z1,Zk,hgt',hgt,s0,s1,s2,sr]
  exact(x0 _ _).Zb
 ·have hgt':¬(100:Int)<(ops.length:Int)+(l.length:Int):=by omega
  obtain⟨v',e1,hcap,r1⟩:=r0.sub (i:=0) (j:=ops.length) (by omega) (by omega) (by omega)
  simp only[Int.toNat_zero,List.drop_zero,Int.toNat_natCast,Nat.sub_zero,List.take_length]at r1
  simp (disch:=omega) [B.Uw,go_sem,↓Qy,↓Znh,Zk4,l0,l1,e1,hlen,ht,z1,Zk,hgt',hgt,s0,s1,s2,sr]
  refine(Zsu (x0 _ _).wf hcap (r1.ext (x0 _ _) hwf) (hl.ext (x0 _ _) hwf) (by omega)).mono ?_
  rintro w s ⟨x1,hw⟩
  have k1:=x1.Zd
  have y1:=(x0 _ _).trans x1
  have n1:=x1.nx
  simp only at k1 n1
  have sw:=RdS.sc hw
  simp (disch:=omega) [go_sem,k1,Zgk sw,sw,hlen,ht,z1,Zk,s1,s2,sr]
  have g0:Zh s.h st.nx=some (.cells 457 true (v0::v1::v2::r)):=by rw[k1 _ (by omega)];simp[Zg]
  have g1:Zh s.h (st.nx+1)=some (.cells 457 true B.Qi):=by rw[k1 _ (by omega)];simp[Zg]
  have y2:∀p q,Ext st ⟨Z7 (Z7 s.h st.nx p) (st.nx+1) q,s.nx⟩:=fun p q=>Ext.Qw (Ext.Qw (st:=st) (h:=s.h) (m:=s.nx) y1 (by omega)) (by omega)
  exact⟨(y2 _ _).Zb,by omega,RdS.Zb (st:=⟨_,s.nx⟩) ((hw.Z7 g0 rfl).Z7 (by rw[Qm,if_neg (by omega),g1]) rfl) (y2 _ _).wf⟩
theorem Zaby (H:B.Tl T) (hwf:st.Wf) {v0 v1 v2:AV} {r:List AV} (hR:Rest v1 r) {ops:List Ob} (r0:RdO st.h v0 ops) (hb:ops.length<1000000) {n:Int} (n0:0≤n) (n1:n<1000000):
  Qt (call T (.fn 418 [] []) [.agg (v0::v1::v2::r),.int .i64 n] st) fun w s=>Ext st s∧(((ops.length:Int)<n∧w= .tuple [.Zc,.int .i64 20])∨(n≤ops.length∧∃v',w= .tuple [v',.int .i64 0]∧RdO s.h v' (ops.drop (ops.length - n.toNat)))):=by
 refine Zw H.e H.f rfl ?_
 have x0:∀o1,Ext st ⟨(st.nx,o1)::st.h,st.nx+1⟩:=fun o1=>(Ext.refl hwf).Zf (Nat.lt_succ_self _)
 have l0:=r0.Y0
 have n0':¬n<0:=by omega
 by_cases hgt:(ops.length:Int)<n
 ·simp (disch:=omega) [B.Hy,go_sem,↓Qy,l0,n0',hgt]
  exact(x0 _).Zb
 ·have w1:IntKind.i64.wrap ((ops.length:Int) - n)=(ops.length:Int) - n:=Zo (by omega) (by omega)
  obtain⟨v',e1,hcap,r1⟩:=r0.sub (i:=(ops.length:Int) - n) (j:=ops.length) (by omega) (by omega) (by omega)
  have e2:((ops.drop ((ops.length:Int) - n).toNat).take ((ops.length:Int).toNat - ((ops.length:Int) - n).toNat))=ops.drop (ops.length - n.toNat):=by
   rw[show ((ops.length:Int) - n).toNat=ops.length - n.toNat by omega]
   exact List.take_of_length_le (by simp)
  rw[e2]at r1
  simp (disch:=omega) [B.Hy,go_sem,↓Qy,↓Znh,l0,n0',hgt,w1,e1]
  exact⟨(x0 _).Zb,by omega,RdS.Zb (st:=⟨_,st.nx+1⟩) (r1.ext (x0 _) hwf) (x0 _).wf⟩
theorem Zxx (H:B.O2 T) (hwf:st.Wf) {v0 v1 v2:AV} {r:List AV} (hR:Rest v1 r) {ops:List Ob} (r0:RdO st.h v0 ops) (s2:v2.sc=true) (hb:ops.length<1000000) {n:Int} (n0:0≤n) (n1:n<1000000):
  Qt (call T (.fn 419 [] []) [.agg (v0::v1::v2::r),.int .i64 n] st) fun w s=>Ext st s∧(((ops.length:Int)<n∧w= .tuple [.agg (v0::v1::v2::r),.int .i64 20])∨(n≤ops.length∧∃v',w= .tuple [.agg (v'::v1::v2::r),.int .i64 0]∧Znd v'∧RdO s.h v' (ops.take (ops.length - n.toNat)))):=by
 refine Zw H.e H.f rfl ?_
 have hlen:=hR.len
 have ht:=hR.take
 have s0:=RdS.sc r0
 have s1:=hR.sc
 have sr:=hR.all
 have z1:∀v,Qd B.Qi 0 (v::v1::v2::r)=v::v1::v2::r:=fun v=>Z8 (by rw[hR.Yn,Zk])
 have x0:∀o1 o2,Ext st ⟨(st.nx+1,o2)::(st.nx,o1)::st.h,st.nx+1+1⟩:=fun o1 o2=>((Ext.refl hwf).Zf (Nat.lt_succ_self _)).Zf (Nat.lt_succ_self _)
 have l0:=r0.Y0
 have n0':¬n<0:=by omega
 by_cases hgt:(ops.length:Int)<n
 ·simp (disch:=omega) [B.Rs,go_sem,↓Qy,l0,n0',hgt,hlen,ht,z1,Zk,s0,s1,s2,sr]
  exact(x0 _ _).Zb
 ·have w1:IntKind.i64.wrap ((ops.length:Int) - n)=(ops.length:Int) - n:=Zo (by omega) (by omega)
  obtain⟨v',e1,hcap,r1⟩:=r0.sub (i:=0) (j:=(ops.length:Int) - n) (by omega) (by omega) (by omega)
  have e2:((ops.drop (0:Int).toNat).take (((ops.length:Int) - n).toNat - (0:Int).toNat))=ops.take (ops.length - n.toNat):=by
   rw[show ((ops.length:Int) - n).toNat=ops.length - n.toNat by omega];simp
  rw[e2]at r1
  have sw:=RdS.sc r1
  simp (disch:=omega) [B.Rs,go_sem,↓Qy,↓Znh,Zk4,l0,n0',hgt,w1,e1,hlen,ht,z1,Zk,s0,s1,s2,sr,sw,Zgk sw]
  exact⟨(x0 _ _).Zb,by omega,hcap,RdS.Zb (st:=⟨_,st.nx+1+1⟩) (r1.ext (x0 _ _) hwf) (x0 _ _).wf⟩
end Go.Ev

/- The judge told: operands, results. -/
namespace Go.Ev
open Go
variable {T : Tab} {st st' : St}
def Js (set k:Int):Bool:=
 if set=0 then true else if set=1 then(decide (k=3) || decide (k=4))else if set=2 then decide (k=6)else if set=3 then decide (k=2)else if set=4 then decide (k=3)
 else if set=5 then(decide (k=3) || decide (k=4) || decide (k=6))else(decide (k=2) || decide (k=3))
theorem Gs (H:B.Gf T) (hwf:st.Wf) (set k:Int):Z9 T st (.fn 383 [] []) [.int .i64 set,.int .i64 k] (.bool (Js set k)):=by
 refine Zm H.e H.f rfl ?_
 have x:=Ext.refl hwf
 by_cases k3:k=3
 ·subst k3
  by_cases h0:set=0;· simp[B.Qc,go_sem,Js,h0,x]
  by_cases h1:set=1;· simp[B.Qc,go_sem,Js,h1,x]
  by_cases h2:set=2;· simp[B.Qc,go_sem,Js,h2,x]
  by_cases h3:set=3;· simp[B.Qc,go_sem,Js,h3,x]
  by_cases h4:set=4;· simp[B.Qc,go_sem,Js,h4,x]
  by_cases h5:set=5;· simp[B.Qc,go_sem,Js,h5,x]
  simp[B.Qc,go_sem,Js,h0,h1,h2,h3,h4,h5,x]
 by_cases k4:k=4
 ·subst k4
  by_cases h0:set=0;· simp[B.Qc,go_sem,Js,h0,x]
  by_cases h1:set=1;· simp[B.Qc,go_sem,Js,h1,x]
  by_cases h2:set=2;· simp[B.Qc,go_sem,Js,h2,x]
  by_cases h3:set=3;· simp[B.Qc,go_sem,Js,h3,x]
  by_cases h4:set=4;· simp[B.Qc,go_sem,Js,h4,x]
  by_cases h5:set=5;· simp[B.Qc,go_sem,Js,h5,x]
  simp[B.Qc,go_sem,Js,h0,h1,h2,h3,h4,h5,x]
 by_cases h0:set=0;· simp[B.Qc,go_sem,Js,h0,x,k3,k4]
 by_cases h1:set=1;· simp[B.Qc,go_sem,Js,h1,x,k3,k4]
 by_cases h2:set=2;· simp[B.Qc,go_sem,Js,h2,x,k3,k4]
 by_cases h3:set=3;· simp[B.Qc,go_sem,Js,h3,x,k3,k4]
 by_cases h4:set=4;· simp[B.Qc,go_sem,Js,h4,x,k3,k4]
 by_cases h5:set=5;· simp[B.Qc,go_sem,Js,h5,x,k3,k4]
 by_cases k2:k=2
 ·simp[B.Qc,go_sem,Js,h0,h1,h2,h3,h4,h5,x,k3,k4,k2]
 ·simp[B.Qc,go_sem,Js,h0,h1,h2,h3,h4,h5,x,k3,k4,k2]
theorem RdI.Y0 {h:Heap} {v:AV} {l:List Int} (a:RdI h v l):Go.Ev.Y0 v=some (.int .i64 l.length):=by
 rcases a with ⟨h1,h2,h3⟩ | ⟨n,off,cp,h1,h2⟩
 ·rw[h1,h2];rfl
 ·rw[h1];rfl
theorem RdI.acc {v:AV} {l:List Int} (a:RdI st.h v l) (hw:st.Wf):∃n off ob,∀(i:Int) x,0≤i→l[i.toNat]? =some x→n<st.nx∧Zh st.h n=some ob∧Pq 1 v (.int .i64 i)=some (.ptr n (off+i.toNat))∧Ze2 ob (off+i.toNat)=some (.int .i64 x):=by
 rcases a.form hw with ⟨rfl,rfl⟩ | ⟨n,off,cp,ob,rfl,hlt,hg,hat⟩
 ·exact⟨0,0,.ro [],fun i o hi ho=>by simp at ho⟩
 ·refine⟨n,off,ob,fun i o hi ho=>⟨hlt,hg,?_,hat _ _ ho⟩⟩
  have:=(List.getElem?_eq_some_iff.1 ho).1
  simp only[Pq]
  rw[if_pos ⟨hi,by omega⟩,Nat.mul_one]
def allowed (l:List Ob) (sets:List Int):Bool:=(l.zip sets).all fun p=>Js p.2 p.1.k
theorem Zrm (H:B.Qr T) {st0:St} (hw0:st0.Wf) {vl vs:AV} {l:List Ob} {sets:List Int} (hl:RdO st0.h vl l) (hs:RdI st0.h vs sets) (hlen:sets.length=l.length) (hb:l.length<1000000):
  ∀(m i:Nat) (e:Env) (s:St),i+m=l.length→Ext st0 s→Zl e 1=vs→Zl e 6=vl→Zl e 7= .int .i64 0→Zl e 21=vl→Zl e 22= .int .i64 l.length→Zl e 23= .int .i64 i→
  Res (run T (.loop B.Vv) e s) fun q e' s'=>q= .exit 0∧Ext st0 s'∧Zl e' 6=vl∧Zl e' 7= .int .i64 (if allowed (l.drop i) (sets.drop i)=true then 0 else 22):=by
 intro m
 induction m with
 | zero=>
   intro i e s hi hx g1 g6 g7 g21 g22 g23
   have:¬(i:Int)<l.length:=by omega
   have e1:l.drop i=[]:=List.drop_eq_nil_of_le (by omega)
   rw[Zs]
   simp[B.Vv,go_sem,g1,g6,g7,g21,g22,g23,this,e1,allowed,hx]
 | succ m ih=>
   intro i e s hi hx g1 g6 g7 g21 g22 g23
   have hil:(i:Int)<l.length:=by omega
   obtain⟨o,ho⟩:∃o,l[i]? =some o:=⟨_,List.getElem?_eq_getElem (by omega)⟩
   obtain⟨w,hw⟩:∃w,sets[i]? =some w:=⟨_,List.getElem?_eq_getElem (by omega)⟩
   obtain⟨n,off,ob,hat⟩:=(hl.ext hx hw0).acc hx.wf
   obtain⟨n',off',ob',hat'⟩:=(hs.ext hx hw0).acc hx.wf
   obtain⟨a1,a2,a3,a4⟩:=hat i o (by omega) (by simpa using ho)
   obtain⟨b1,b2,b3,b4⟩:=hat' i w (by omega) (by simpa using hw)
   simp only[Int.toNat_natCast]at a3 a4 b3 b4
   have d1:l.drop i=o::l.drop (i+1):=by rw[List.drop_eq_getElem_cons (by omega)];congr 1;rw[List.getElem?_eq_getElem (by omega)]at ho;injection ho
   have d2:sets.drop i=w::sets.drop (i+1):=by rw[List.drop_eq_getElem_cons (by omega)];congr 1;rw[List.getElem?_eq_getElem (by omega)]at hw;injection hw
   have ha:allowed (l.drop i) (sets.drop i)=(Js w o.k && allowed (l.drop (i+1)) (sets.drop (i+1))):=by rw[d1,d2];simp[allowed]
   have x1:=hx.Zf (o:= .cells 451 true o.A) (Nat.lt_succ_self s.nx)
   have d:¬s.nx=n':=by omega
   rw[ha,Zs]
   simp (disch:=omega) [B.Vv,go_sem,↓Zp,g1,g6,g7,g21,g22,g23,hil,a2,a3,a4,b2,b3,b4,B.zOb,d,reI,wanted]
   have x2:=x1.upN (m:=s.nx+1+8) (by omega)
   refine(Gs H.Qc x2.wf w o.k).use fun s1 x3=> ?_
   have k3:=x3.Zd
   have y3:=x2.trans x3
   have n3:=x3.nx
   simp only at k3 n3
   cases hal:Js w o.k with
   | false=>
     simp (disch:=omega) [go_sem,reI,wanted,k3,d,b2,b4,y3]
   | true=>
     simp (disch:=omega) [go_sem,reI,wanted,k3,d,b2,b4]
     exact ih (i+1) _ s1 (by omega) y3 (by simp[go_sem]) (by simp[go_sem]) (by simp[go_sem]) (by simp[go_sem]) (by simp[go_sem]) (by simp[go_sem])
def Yq (ops:List Ob) (sets:List Int):Int:=if ops.length<sets.length then 20 else if allowed (ops.drop (ops.length - sets.length)) sets=true then 0 else 22
theorem Wo (H:B.Qr T) (hwf:st.Wf) {v0 v1 v2:AV} {r:List AV} (hR:Rest v1 r) {ops:List Ob} (r0:RdO st.h v0 ops) (s2:v2.sc=true) (hb:ops.length<1000000) {vs:AV} {sets:List Int} (hs:RdI st.h vs sets) (hsl:sets.length<1000000):
  Qt (call T (.fn 382 [] []) [.agg (v0::v1::v2::r),vs] st) fun w s=>Ext st s∧((Yq ops sets≠0∧w= .tuple [.Zc,.int .i64 (Yq ops sets)])∨(Yq ops sets=0∧sets.length≤ops.length∧∃v',w= .tuple [v',.int .i64 0]∧RdO s.h v' (ops.drop (ops.length - sets.length)))):=by
 refine Zw H.e H.f rfl ?_
 have hlen:=hR.len
 have ht:=hR.take
 have x0:=(Ext.refl hwf).Zf (o:= .cells 493 true (v0::v1::v2::r)) (Nat.lt_succ_self st.nx)
 have ls:=hs.Y0
 simp (disch:=omega) [B.Zy,go_sem,↓Qy,ls,hlen,ht]
 refine(Zaby H.Hy x0.wf hR (r0.ext x0 hwf) hb (n:=sets.length) (by omega) (by omega)).mono ?_
 rintro w s1 ⟨x1,⟨hgt,rfl⟩ | ⟨hle,v',rfl,r1⟩⟩
 ·have y1:=x0.trans x1
  have:Yq ops sets=20:=by unfold Yq;rw[if_pos (by omega)]
  rw[this]
  simp (disch:=omega) [go_sem]
  exact y1.Zb
 ·have y1:=x0.trans x1
  simp only[Int.toNat_natCast]at r1
  have l1:=r1.Y0
  have hll:(ops.drop (ops.length - sets.length)).length=sets.length:=by simp;omega
  rw[hll]at l1
  simp (disch:=omega) [go_sem,↓Qy,l1]
  refine(Zrm H y1.wf r1 (hs.ext y1 hwf) hll.symm (by omega) _ 0 _ s1 (Nat.zero_add _) (Ext.refl y1.wf) (by simp[go_sem]) (by simp[go_sem]) (by simp[go_sem]) (by simp[go_sem]) (by simp[go_sem,hll]) (by simp[go_sem])).mono ?_
  rintro q e' s2' ⟨rfl,x2,g6,g7⟩
  have y2:=y1.trans x2
  simp only[List.drop_zero]at g7
  cases hal:allowed (ops.drop (ops.length - sets.length)) sets with
  | false=>
    have:Yq ops sets=22:=by unfold Yq;rw[if_neg (by omega),hal];rfl
    rw[this]
    rw[hal]at g7
    simp (disch:=omega) [go_sem,g6,g7]
    exact y2.Zb
  | true=>
    have:Yq ops sets=0:=by unfold Yq;rw[if_neg (by omega),hal];rfl
    rw[this]
    rw[hal]at g7
    simp (disch:=omega) [go_sem,g6,g7]
    exact⟨y2.Zb,by omega,RdS.Zb (r1.ext x2 y1.wf) y2.wf⟩
end Go.Ev

/- The judge told: results; eq and ne, and, or, xor, not, bitshift. -/
namespace Go.Ev
open Go
variable {T : Tab} {st st' : St}
def Ans (s:St) (w v0 v1 v2:AV) (r:List AV) (e:Int) (ops:List Ob):Prop:=
 (e≠0∧w= .tuple [.agg (v0::v1::v2::r),.int .i64 e])∨(e=0∧∃v',w= .tuple [.agg (v'::v1::v2::r),.int .i64 0]∧RdO s.h v' ops)
theorem Ans.Zb {c:Nat} {w v0 v1 v2:AV} {r:List AV} {e:Int} {ops:List Ob} (a:Ans st w v0 v1 v2 r e ops) (hw:st.Wf):Ans ⟨Go.Ev.Zb c st.h,st.nx⟩ w v0 v1 v2 r e ops:=by
 rcases a with h | ⟨h1,v',h2,h3⟩
 ·exact .inl h
 ·exact .inr ⟨h1,v',h2,RdS.Zb h3 hw⟩
def Zgi (ops:List Ob) (n:Nat):Int:=if ops.length<n then 20 else if 100<ops.length - n+1 then 21 else 0
theorem Zil (o:Ob) (h:Heap) (n:Nat):RdO ((n,.cells 451 false o.A)::h) (.slice n 0 1 (.known 1)) [o]:=
 RdO.made (ty:=451) (l:=[o]) (by simp[Zg,Ku]) rfl
theorem V3 (H:B.Jj T) (hwf:st.Wf) {v0 v1 v2:AV} {r:List AV} (hR:Rest v1 r) {ops:List Ob} {hp:List Ce} (r0:RdO st.h v0 ops) (r2:HpR st.h v2 hp) (hb:ops.length<1000000) (n:Nat) (hn:n<1000000) (o:Ob):
  Qt (call T (.fn 386 [] []) [.agg (v0::v1::v2::r),.int .i64 n,o.v] st) fun w s=>Ext st s∧Ans s w v0 v1 v2 r (Zgi ops n) (ops.take (ops.length - n)++[o]):=by
 refine Zw H.e H.f rfl ?_
 have hlen:=hR.len
 have ht:=hR.take
 have s0:=RdS.sc r0
 have s1:=hR.sc
 have s2:=r2.sc
 have sr:=hR.all
 have z1:∀v,Qd B.Qi 0 (v::v1::v2::r)=v::v1::v2::r:=fun v=>Z8 (by rw[hR.Yn,Zk])
 have x0:=(((Ext.refl hwf).Zf (o:= .cells 493 true (v0::v1::v2::r)) (Nat.lt_succ_self st.nx)).Zf (o:= .cells 451 true o.A) (Nat.lt_succ_self (st.nx+1))).Zf (o:= .cells 457 true B.Qi) (Nat.lt_succ_self (st.nx+1+1))
 have d0:¬st.nx+1+1=st.nx:=by omega
 simp (disch:=omega) [B.Zx,go_sem,hlen,ht,d0]
 refine(Zxx H.Rs x0.wf hR (r0.ext x0 hwf) s2 hb (n:=n) (by omega) (by omega)).mono ?_
 rintro w s1' ⟨x1,⟨hgt,rfl⟩ | ⟨hle,v',rfl,hcap,r1⟩⟩
 ·have y1:=x0.trans x1
  have n1:=x1.nx
  have k1:=x1.Zd
  simp only at n1 k1
  have:Zgi ops n=20:=by unfold Zgi;rw[if_pos (by omega)]
  rw[this]
  have d1:¬s1'.nx=st.nx:=by omega
  have d2:¬s1'.nx=st.nx+1:=by omega
  have d3:¬s1'.nx=st.nx+1+1:=by omega
  have y2:∀p q,Ext st ⟨(s1'.nx,p)::Z7 s1'.h (st.nx+1+1) q,s1'.nx+1⟩:=fun p q=>(Ext.Qw (st:=st) (h:=s1'.h) (m:=s1'.nx) (n:=st.nx+1+1) y1 (by omega)).Zf (Nat.lt_succ_self _)
  simp (disch:=omega) [go_sem,k1,d0,d1,d2,d3,hlen,ht,z1,Zk,s0,s1,s2,sr]
  exact⟨(y2 _ _).Zb,.inl ⟨by decide,rfl⟩⟩
 ·have y1:=x0.trans x1
  have n1:=x1.nx
  have k1:=x1.Zd
  simp only[Int.toNat_natCast]at n1 k1 r1
  have s0':=RdS.sc r1
  have d1:¬s1'.nx=st.nx:=by omega
  have d2:¬s1'.nx=st.nx+1:=by omega
  have d3:¬s1'.nx=st.nx+1+1:=by omega
  have d4:¬s1'.nx+1=st.nx:=by omega
  have d5:¬s1'.nx+1=st.nx+1:=by omega
  have d6:¬s1'.nx+1=st.nx+1+1:=by omega
  have y2:=(y1.Zf (o:= .cells 457 true (v'::v1::v2::r)) (Nat.lt_succ_self s1'.nx)).Zf (o:= .cells 451 false o.A) (Nat.lt_succ_self (s1'.nx+1))
  have z2:Ext s1' _:=((Ext.refl y1.wf).Zf (o:= .cells 457 true (v'::v1::v2::r)) (Nat.lt_succ_self s1'.nx)).Zf (o:= .cells 451 false o.A) (Nat.lt_succ_self (s1'.nx+1))
  simp (disch:=omega) [go_sem,k1,d0,d1,d2,d3,d4,d5,d6,hlen,ht,z1,Zk,s0',s1,s2,sr,B.zOb]
  refine(Zrt H.Uw y2.wf hR (r1.ext z2 y1.wf) (r2.ext y2 hwf) (Zil o _ _) (by simp;omega)).mono ?_
  have hl1:(ops.take (ops.length - n)).length=ops.length - n:=by simp
  rw[hl1]
  rintro w s3 ⟨x3,⟨hgt,rfl⟩ | ⟨hle2,v'',rfl,r3⟩⟩
  ·have y3:=y2.trans x3
   have n3:=x3.nx
   have k3:=x3.Zd
   simp only at n3 k3
   have:Zgi ops n=21:=by unfold Zgi;rw[if_neg (by omega),if_pos (by simpa using hgt)]
   rw[this]
   have e1:¬s3.nx=st.nx:=by omega
   have e2:¬s3.nx=st.nx+1:=by omega
   have e3:¬s3.nx=st.nx+1+1:=by omega
   have y4:∀p q,Ext st ⟨(s3.nx,p)::Z7 s3.h (st.nx+1+1) q,s3.nx+1⟩:=fun p q=>(Ext.Qw (st:=st) (h:=s3.h) (m:=s3.nx) (n:=st.nx+1+1) y3 (by omega)).Zf (Nat.lt_succ_self _)
   simp (disch:=omega) [go_sem,k3,k1,d0,d1,d2,d3,d4,d5,d6,e1,e2,e3,hlen,ht,z1,Zk,s0,s0',s1,s2,sr]
   exact⟨(y4 _ _).Zb,.inl ⟨by decide,rfl⟩⟩
  ·have y3:=y2.trans x3
   have n3:=x3.nx
   have k3:=x3.Zd
   simp only at n3 k3
   have:Zgi ops n=0:=by unfold Zgi;rw[if_neg (by omega),if_neg (by simp at hle2;omega)]
   rw[this]
   have s0'':=RdS.sc r3
   have e1:¬s3.nx=st.nx:=by omega
   have e2:¬s3.nx=st.nx+1:=by omega
   have e3:¬s3.nx=st.nx+1+1:=by omega
   simp (disch:=omega) [go_sem,k3,k1,d0,d1,d2,d3,d4,d5,d6,e1,e2,e3,hlen,ht,z1,Zk,s0,s0',s0'',s1,s2,sr]
   have y5:∀q,Ext st ⟨Z7 s3.h (st.nx+1+1) q,s3.nx⟩:=fun q=>Ext.Qw (st:=st) (h:=s3.h) (m:=s3.nx) (n:=st.nx+1+1) y3 (by omega)
   have g:Zh s3.h (st.nx+1+1)=some (.cells 457 true B.Qi):=by
    rw[k3 _ (by omega)]
    simp only[Zg]
    rw[if_neg (by omega),if_neg (by omega),k1 _ (by omega)]
    simp[Zg]
   have y6:∀p q,Ext st ⟨(s3.nx,p)::Z7 s3.h (st.nx+1+1) q,s3.nx+1⟩:=fun p q=>(y5 q).Zf (Nat.lt_succ_self _)
   exact⟨(y6 _ _).Zb,Ans.Zb (.inr ⟨rfl,v'',rfl,(r3.Z7 g rfl).ext (st:=⟨Z7 s3.h (st.nx+1+1) _,s3.nx⟩) ((Ext.refl (y5 _).wf).Zf (Nat.lt_succ_self _)) (y5 _).wf⟩) (y6 _ _).wf⟩
end Go.Ev

/- The judge told: eq and ne, and, or, xor. -/
namespace Go.Ev
open Go
variable {T : Tab} {st st' : St}
theorem Ans.shape {w v0 v1 v2:AV} {r:List AV} {e:Int} {ops:List Ob} (a:Ans st w v0 v1 v2 r e ops) (hR:Rest v1 r) (s0:v0.sc=true) (s2:v2.sc=true):∃X e',w= .tuple [.agg X,.int .i64 e']∧X.length=67∧X.all AV.sc=true∧X.take 67=X∧Qd B.Qi 0 X=X:=by
 have key:∀v,v.sc=true→(v::v1::v2::r).length=67∧(v::v1::v2::r).all AV.sc=true:=fun v hv=>⟨hR.Yn _ _,by simp only[List.all_cons,hv,hR.sc,s2,hR.all,Bool.and_self]⟩
 rcases a with ⟨_,rfl⟩ | ⟨_,v',rfl,h⟩
 ·exact⟨_,_,rfl,(key _ s0).1,(key _ s0).2,Xh (key _ s0).1,Z8 (by rw[(key _ s0).1,Zk])⟩
 ·have:=key _ (RdS.sc h)
  exact⟨_,_,rfl,this.1,this.2,Xh this.1,Z8 (by rw[this.1,Zk])⟩
theorem Ans.Z7 {w v0 v1 v2:AV} {r:List AV} {e:Int} {ops:List Ob} {n:Nat} {o o':Qb} {m:Nat} (a:Ans st w v0 v1 v2 r e ops) (hg:Zh st.h n=some o) (ho:o.ow=false):Ans ⟨Go.Ev.Z7 st.h n o',m⟩ w v0 v1 v2 r e ops:=by
 rcases a with h | ⟨h1,v',h2,h3⟩
 ·exact .inl h
 ·exact .inr ⟨h1,v',h2,RdO.Z7 h3 hg ho⟩
def Jf (ops:List Ob) (n i:Nat):Ob:=ops.getD (ops.length - n+i) obZ
theorem Uu {ops:List Ob} {n i:Nat} (h:n≤ops.length) (hi:i<n):(ops.drop (ops.length - n))[i]? =some (Jf ops n i):=by
 rw[List.getElem?_drop,Jf,List.getD_eq_getElem?_getD,List.getElem?_eq_getElem (by omega)]
 rfl
abbrev R2:=Int×List Ob
def Zbq (ops:List Ob) (n:Nat) (o:Ob):R2:=(Zgi ops n,ops.take (ops.length - n)++[o])
def Dr (ops:List Ob) (hp:List Ce) (want:Bool):R2:=if Yq ops [0,0]≠0 then(Yq ops [0,0],[])else Zbq ops 2 (Qp (Np hp (Jf ops 2 0) (Jf ops 2 1) == want))
theorem Ry (l:List Int) (h:Heap) (n k:Nat) (hk:k=l.length):RdI ((n,.cells 3 false (Nw l))::h) (.slice n 0 k (.known k)) l:=by
 subst hk
 exact .inr ⟨n,0,_,rfl,Lu (ty:=3) (l:=false) (by simp[Zg]) (by simp[Nw])⟩
theorem Zr3 (H:B.Rl T) (hwf:st.Wf) {v0 v1 v2:AV} {r:List AV} (hR:Rest v1 r) {ops:List Ob} {hp:List Ce} (r0:RdO st.h v0 ops) (r2:HpR st.h v2 hp) (hb:ops.length<1000000) (want:Bool):
  Qt (call T (.fn 340 [] []) [.agg (v0::v1::v2::r),.bool want] st) fun w s=>Ext st s∧Ans s w v0 v1 v2 r (Dr ops hp want).1 (Dr ops hp want).2:=by
 refine Zw H.e H.f rfl ?_
 have hlen:=hR.len
 have ht:=hR.take
 have s0:=RdS.sc r0
 have s1:=hR.sc
 have s2:=r2.sc
 have sr:=hR.all
 have z1:∀v,Qd B.Qi 0 (v::v1::v2::r)=v::v1::v2::r:=fun v=>Z8 (by rw[hR.Yn,Zk])
 have x0:=(((Ext.refl hwf).Zf (o:= .cells 493 true (v0::v1::v2::r)) (Nat.lt_succ_self st.nx)).Zf (o:= .cells 457 true B.Qi) (Nat.lt_succ_self (st.nx+1))).Zf (o:= .cells 3 false (Nw [0,0])) (Nat.lt_succ_self (st.nx+1+1))
 have d0:¬st.nx+1+1=st.nx:=by omega
 simp (disch:=omega) [B.Y9,go_sem,hlen,ht,d0]
 refine(Wo H.Zy x0.wf hR (r0.ext x0 hwf) s2 hb (Ry [0,0] _ _ _ rfl) (by decide)).mono ?_
 rintro w q1 ⟨x1,⟨he,rfl⟩ | ⟨he,hle,v',rfl,r1⟩⟩
 ·have y1:=x0.trans x1
  have n1:=x1.nx
  have k1:=x1.Zd
  simp only at n1 k1
  have e1:Dr ops hp want=(Yq ops [0,0],[]):=by unfold Dr;rw[if_pos he]
  rw[e1]
  simp (disch:=omega) [go_sem,k1,he,d0,hlen,ht,z1,Zk,s0,s1,s2,sr]
  exact⟨(Ext.Qw (st:=st) (h:=q1.h) (m:=q1.nx) (n:=st.nx+1) y1 (by omega)).Zb,.inl ⟨he,rfl⟩⟩
 ·have y1:=x0.trans x1
  have n1:=x1.nx
  have k1:=x1.Zd
  simp only at n1 k1
  have e1:Dr ops hp want=Zbq ops 2 (Qp (Np hp (Jf ops 2 0) (Jf ops 2 1) == want)):=by unfold Dr;rw[if_neg (by simp[he])]
  rw[e1]
  obtain⟨n,off,ob,hat⟩:=r1.acc y1.wf
  obtain⟨a1,a2,a3,a4⟩:=hat 0 _ (by omega) (Uu hle (i:=0) (by simp))
  obtain⟨b1,b2,b3,b4⟩:=hat 1 _ (by omega) (Uu hle (i:=1) (by simp))
  simp only[List.length_cons,List.length_nil,Int.reduceToNat,Nat.zero_mul,Nat.one_mul,Nat.zero_add,Nat.add_zero,Nat.reduceAdd]at a3 a4 b3 b4 hle
  generalize Jf ops 2 0=oa at*
  generalize Jf ops 2 1=ob2 at*
  have y2:=y1.upN (m:=q1.nx+21) (by omega)
  simp (disch:=omega) [go_sem,k1,he,d0,hlen,ht,↓Zp,a2,a3,a4,b3,b4]
  refine(Zqn H.Hi y2.wf (r2.ext y2 hwf) oa ob2).use fun q2 x2=> ?_
  have k2:=x2.Zd
  have y3:=y2.trans x2
  have n2:=x2.nx
  simp only at k2 n2
  simp (disch:=omega) [go_sem,reI,wanted,k2,k1,d0,hlen,ht]
  refine(Lf H.Kp y3.wf _).use fun q3 x3=> ?_
  have k3:=x3.Zd
  have y4:=y3.trans x3
  have n3:=x3.nx
  simp (disch:=omega) [go_sem,reI,wanted,k3,k2,k1,d0,hlen,ht]
  refine(V3 H.Zx y4.wf hR (r0.ext y4 hwf) (r2.ext y4 hwf) hb 2 (by decide) _).mono ?_
  rintro w q4 ⟨x4,ha⟩
  obtain⟨X,e',rfl,hX,hXs,hXt,hXz⟩:=ha.shape hR s0 s2
  have k4:=x4.Zd
  have y5:=y4.trans x4
  have n4:=x4.nx
  have g:Zh q4.h (st.nx+1)=some (.cells 457 true B.Qi):=by
   rw[k4 _ (by omega),k3 _ (by omega),k2 _ (by omega),k1 _ (by omega)]
   simp[Zg]
  simp (disch:=omega) [go_sem,k4,k3,k2,k1,d0,hX,hXs,hXt,hXz,Zk]
  have z:=Ext.Qw (st:=st) (h:=q4.h) (m:=q4.nx) (n:=st.nx+1) (o:= .cells 457 true X) y5 (by omega)
  exact⟨z.Zb,Ans.Zb (st:=⟨_,q4.nx⟩) (ha.Z7 g rfl) z.wf⟩
end Go.Ev

/- The judge told: and, or, xor, not, bitshift. -/
namespace Go.Ev
open Go
variable {T : Tab} {st st' : St}
def Eg (ops:List Ob) (F:Int→Int→Int):R2:=if Yq ops [6,0]≠0 then(Yq ops [6,0],[])else if(Jf ops 2 0).k≠(Jf ops 2 1).k then(22,[])else Zbq ops 2 ⟨(Jf ops 2 0).k,false,F (Jf ops 2 0).n (Jf ops 2 1).n,[],0,0,0⟩
theorem Ziy (H:B.Rj T) (hwf:st.Wf) {v0 v1 v2:AV} {r:List AV} (hR:Rest v1 r) {ops:List Ob} {hp:List Ce} (r0:RdO st.h v0 ops) (r2:HpR st.h v2 hp) (hb:ops.length<1000000) {f:AV} {F:Int→Int→Int} (hf:∀s a b,s.Wf→Z9 T s f [.int .i64 a,.int .i64 b] (.int .i64 (F a b))):
  Qt (call T (.fn 338 [] []) [.agg (v0::v1::v2::r),f] st) fun w s=>Ext st s∧Ans s w v0 v1 v2 r (Eg ops F).1 (Eg ops F).2:=by
 refine Zw H.e H.f rfl ?_
 have hlen:=hR.len
 have ht:=hR.take
 have s0:=RdS.sc r0
 have s1:=hR.sc
 have s2:=r2.sc
 have sr:=hR.all
 have z1:∀v,Qd B.Qi 0 (v::v1::v2::r)=v::v1::v2::r:=fun v=>Z8 (by rw[hR.Yn,Zk])
 have d0:¬st.nx+1+1=st.nx:=by omega
 have x0:=(((Ext.refl hwf).Zf (o:= .cells 493 true (v0::v1::v2::r)) (Nat.lt_succ_self st.nx)).Zf (o:= .cells 457 true B.Qi) (Nat.lt_succ_self (st.nx+1))).Zf (o:= .cells 3 false (Nw [6,0])) (Nat.lt_succ_self (st.nx+1+1))
 simp (disch:=omega) [B.K4,go_sem,hlen,ht,d0]
 refine(Wo H.Zy x0.wf hR (r0.ext x0 hwf) s2 hb (Ry [6,0] _ _ _ rfl) (by decide)).mono ?_
 rintro w q1 ⟨x1,⟨he,rfl⟩ | ⟨he,hle,v',rfl,r1⟩⟩
 ·have y1:=x0.trans x1
  have n1:=x1.nx
  have k1:=x1.Zd
  simp only at n1 k1
  have e1:Eg ops F=(Yq ops [6,0],[]):=by unfold Eg;rw[if_pos he]
  rw[e1]
  simp (disch:=omega) [go_sem,k1,he,d0,hlen,ht,z1,Zk,s0,s1,s2,sr]
  exact⟨(Ext.Qw (st:=st) (h:=q1.h) (m:=q1.nx) (n:=st.nx+1) y1 (by omega)).Zb,.inl ⟨he,rfl⟩⟩
 ·have y1:=x0.trans x1
  have n1:=x1.nx
  have k1:=x1.Zd
  simp only at n1 k1
  obtain⟨n,off,ob,hat⟩:=r1.acc y1.wf
  obtain⟨a01,a02,a03,a04⟩:=hat 0 _ (by omega) (Uu hle (i:=0) (by simp))
  obtain⟨a11,a12,a13,a14⟩:=hat 1 _ (by omega) (Uu hle (i:=1) (by simp))
  simp only[List.length_cons,List.length_nil,Int.reduceToNat,Nat.zero_mul,Nat.one_mul,Nat.zero_add,Nat.add_zero,Nat.reduceAdd,Nat.reduceMul]at a03 a04 a13 a14 hle
  by_cases hk:(Jf ops 2 0).k=(Jf ops 2 1).k
  ·have e1:Eg ops F=Zbq ops 2 ⟨(Jf ops 2 0).k,false,F (Jf ops 2 0).n (Jf ops 2 1).n,[],0,0,0⟩:=by unfold Eg;rw[if_neg (by simp[he]),if_neg (by simp[hk])]
   rw[e1]
   generalize Jf ops 2 0=oa at*
   generalize Jf ops 2 1=ob2 at*
   have p0:=Jg a04 (i:=0) (by omega)
   have p1:=Jg a14 (i:=0) (by omega)
   have p2:=Jg a04 (i:=2) (by omega)
   have p3:=Jg a14 (i:=2) (by omega)
   simp only[Nat.add_zero]at p0 p1
   simp[Ob.A]at p0 p1 p2 p3
   have y2:=y1.upN (m:=q1.nx+9+23) (by omega)
   simp (disch:=omega) [go_sem,k1,he,d0,hlen,ht,↓Zp,a02,a03,a12,a13,p0,p1,p2,p3,eq_true hk]
   refine(hf _ oa.n ob2.n y2.wf).use fun q2 x2=> ?_
   have k2:=x2.Zd
   have y3:=y2.trans x2
   have n2:=x2.nx
   simp only at k2 n2
   simp (disch:=omega) [go_sem,reI,wanted,k2,k1,a02,p0,p2,p1,p3,d0,hlen,ht,B.zOb]
   refine(V3 H.Zx y3.wf hR (r0.ext y3 hwf) (r2.ext y3 hwf) hb 2 (by decide) ⟨oa.k,false,F oa.n ob2.n,[],0,0,0⟩).mono ?_
   rintro w q9 ⟨x9,ha⟩
   obtain⟨X,e',rfl,hX,hXs,hXt,hXz⟩:=ha.shape hR s0 s2
   have k9:=x9.Zd
   have y9:=y3.trans x9
   have n9:=x9.nx
   try simp only at n9 k9
   have g:Zh q9.h (st.nx+1)=some (.cells 457 true B.Qi):=by
    rw[k9 _ (by omega)]
    simp (disch:=omega) [k2,k1,Zg,Qm]
   simp (disch:=omega) [go_sem,reI,wanted,k9,k2,k1,d0,hX,hXs,hXt,hXz,Zk]
   have z:=Ext.Qw (st:=st) (h:=q9.h) (m:=q9.nx) (n:=st.nx+1) (o:= .cells 457 true X) y9 (by omega)
   exact⟨z.Zb,Ans.Zb (st:=⟨_,q9.nx⟩) (ha.Z7 g rfl) z.wf⟩
  ·have e1:Eg ops F=(22,[]):=by unfold Eg;rw[if_neg (by simp[he]),if_pos hk]
   rw[e1]
   generalize Jf ops 2 0=oa at*
   generalize Jf ops 2 1=ob2 at*
   have p0:=Jg a04 (i:=0) (by omega)
   have p1:=Jg a14 (i:=0) (by omega)
   simp only[Nat.add_zero]at p0 p1
   simp[Ob.A]at p0 p1
   simp (disch:=omega) [go_sem,reI,wanted,k1,he,d0,hlen,ht,z1,Zk,s0,s1,s2,sr,↓Zp,a02,a03,a12,a13,p0,p1,hk]
   exact⟨(Ext.Qw (st:=st) (h:=q1.h) (m:=q1.nx+9) (n:=st.nx+1) (y1.upN (by omega)) (by omega)).Zb,.inl ⟨by decide,rfl⟩⟩
def Zwd (o:Ob):Ob:=if o.k=2 then⟨o.k,false,IntKind.i64.wrap (1 - o.n),[],0,0,0⟩else⟨o.k,false,IntKind.i64.wrap (-1 - o.n),[],0,0,0⟩
def Zo8 (ops:List Ob):R2:=if Yq ops [6]≠0 then(Yq ops [6],[])else Zbq ops 1 (Zwd (Jf ops 1 0))
theorem Zaa4 (H:B.Gh T) (hwf:st.Wf) {v0 v1 v2:AV} {r:List AV} (hR:Rest v1 r) {ops:List Ob} {hp:List Ce} (r0:RdO st.h v0 ops) (r2:HpR st.h v2 hp) (hb:ops.length<1000000):
  Qt (call T (.fn 341 [] []) [.agg (v0::v1::v2::r)] st) fun w s=>Ext st s∧Ans s w v0 v1 v2 r (Zo8 ops).1 (Zo8 ops).2:=by
 refine Zw H.e H.f rfl ?_
 have hlen:=hR.len
 have ht:=hR.take
 have s0:=RdS.sc r0
 have s1:=hR.sc
 have s2:=r2.sc
 have sr:=hR.all
 have z1:∀v,Qd B.Qi 0 (v::v1::v2::r)=v::v1::v2::r:=fun v=>Z8 (by rw[hR.Yn,Zk])
 have d0:¬st.nx+1+1=st.nx:=by omega
 have x0:=(((Ext.refl hwf).Zf (o:= .cells 493 true (v0::v1::v2::r)) (Nat.lt_succ_self st.nx)).Zf (o:= .cells 457 true B.Qi) (Nat.lt_succ_self (st.nx+1))).Zf (o:= .cells 3 false (Nw [6])) (Nat.lt_succ_self (st.nx+1+1))
 simp (disch:=omega) [B.Wa,go_sem,hlen,ht,d0]
 refine(Wo H.Zy x0.wf hR (r0.ext x0 hwf) s2 hb (Ry [6] _ _ _ rfl) (by decide)).mono ?_
 rintro w q1 ⟨x1,⟨he,rfl⟩ | ⟨he,hle,v',rfl,r1⟩⟩
 ·have y1:=x0.trans x1
  have n1:=x1.nx
  have k1:=x1.Zd
  simp only at n1 k1
  have e1:Zo8 ops=(Yq ops [6],[]):=by unfold Zo8;rw[if_pos he]
  rw[e1]
  simp (disch:=omega) [go_sem,k1,he,d0,hlen,ht,z1,Zk,s0,s1,s2,sr]
  exact⟨(Ext.Qw (st:=st) (h:=q1.h) (m:=q1.nx) (n:=st.nx+1) y1 (by omega)).Zb,.inl ⟨he,rfl⟩⟩
 ·have y1:=x0.trans x1
  have n1:=x1.nx
  have k1:=x1.Zd
  simp only at n1 k1
  obtain⟨n,off,ob,hat⟩:=r1.acc y1.wf
  obtain⟨a01,a02,a03,a04⟩:=hat 0 _ (by omega) (Uu hle (i:=0) (by simp))
  simp only[List.length_cons,List.length_nil,Int.reduceToNat,Nat.zero_mul,Nat.one_mul,Nat.zero_add,Nat.add_zero,Nat.reduceAdd,Nat.reduceMul]at a03 a04 hle
  have e1:Zo8 ops=Zbq ops 1 (Zwd (Jf ops 1 0)):=by unfold Zo8;rw[if_neg (by simp[he])]
  rw[e1]
  generalize Jf ops 1 0=oa at*
  have p0:=Jg a04 (i:=0) (by omega)
  have p2:=Jg a04 (i:=2) (by omega)
  simp only[Nat.add_zero]at p0
  simp[Ob.A]at p0 p2
  have y2:=y1.Zf (o:= .cells 451 true [.int .i64 oa.k,.bool false,.int .i64 (IntKind.i64.wrap (-1 - oa.n)),.str [],.int .i64 0,.int .i64 0,.int .i64 0]) (Nat.lt_succ_self q1.nx)
  have d1:¬q1.nx=st.nx:=by omega
  have d2:¬q1.nx=st.nx+1:=by omega
  have d3:¬q1.nx=n:=by omega
  by_cases hk:oa.k=2
  ·have e2:Zwd oa=⟨oa.k,false,IntKind.i64.wrap (1 - oa.n),[],0,0,0⟩:=by unfold Zwd;rw[if_pos hk]
   rw[e2]
   have y3:=(y1.Zf (o:= .cells 451 true [.int .i64 oa.k,.bool false,.int .i64 (IntKind.i64.wrap (1 - oa.n)),.str [],.int .i64 0,.int .i64 0,.int .i64 0]) (Nat.lt_succ_self q1.nx)).upN (m:=q1.nx+12) (by omega)
   simp (disch:=omega) [go_sem,k1,he,d0,d1,d2,d3,hlen,ht,↓Zp,a02,a03,p0,p2,eq_true hk,B.zOb]
   refine(V3 H.Zx y3.wf hR (r0.ext y3 hwf) (r2.ext y3 hwf) hb 1 (by decide) ⟨oa.k,false,IntKind.i64.wrap (1 - oa.n),[],0,0,0⟩).mono ?_
   rintro w q9 ⟨x9,ha⟩
   obtain⟨X,e',rfl,hX,hXs,hXt,hXz⟩:=ha.shape hR s0 s2
   have k9:=x9.Zd
   have y9:=y3.trans x9
   have n9:=x9.nx
   try simp only at n9 k9
   have g:Zh q9.h (st.nx+1)=some (.cells 457 true B.Qi):=by
    rw[k9 _ (by omega)]
    simp (disch:=omega) [k1,Zg,Qm,d1,d2]
   simp (disch:=omega) [go_sem,reI,wanted,k9,k1,d0,hX,hXs,hXt,hXz,Zk,d1,d2]
   have z:=Ext.Qw (st:=st) (h:=q9.h) (m:=q9.nx) (n:=st.nx+1) (o:= .cells 457 true X) y9 (by omega)
   exact⟨z.Zb,Ans.Zb (st:=⟨_,q9.nx⟩) (ha.Z7 g rfl) z.wf⟩
  ·have e2:Zwd oa=⟨oa.k,false,IntKind.i64.wrap (-1 - oa.n),[],0,0,0⟩:=by unfold Zwd;rw[if_neg hk]
   rw[e2]
   have y3:=(y1.Zf (o:= .cells 451 true [.int .i64 oa.k,.bool false,.int .i64 (IntKind.i64.wrap (-1 - oa.n)),.str [],.int .i64 0,.int .i64 0,.int .i64 0]) (Nat.lt_succ_self q1.nx)).upN (m:=q1.nx+12) (by omega)
   simp (disch:=omega) [go_sem,k1,he,d0,d1,d2,d3,hlen,ht,↓Zp,a02,a03,p0,p2,hk,B.zOb]
   refine(V3 H.Zx y3.wf hR (r0.ext y3 hwf) (r2.ext y3 hwf) hb 1 (by decide) ⟨oa.k,false,IntKind.i64.wrap (-1 - oa.n),[],0,0,0⟩).mono ?_
   rintro w q9 ⟨x9,ha⟩
   obtain⟨X,e',rfl,hX,hXs,hXt,hXz⟩:=ha.shape hR s0 s2
   have k9:=x9.Zd
   have y9:=y3.trans x9
   have n9:=x9.nx
   try simp only at n9 k9
   have g:Zh q9.h (st.nx+1)=some (.cells 457 true B.Qi):=by
    rw[k9 _ (by omega)]
    simp (disch:=omega) [k1,Zg,Qm,d1,d2]
   simp (disch:=omega) [go_sem,reI,wanted,k9,k1,d0,hX,hXs,hXt,hXz,Zk,d1,d2]
   have z:=Ext.Qw (st:=st) (h:=q9.h) (m:=q9.nx) (n:=st.nx+1) (o:= .cells 457 true X) y9 (by omega)
   exact⟨z.Zb,Ans.Zb (st:=⟨_,q9.nx⟩) (ha.Z7 g rfl) z.wf⟩
end Go.Ev

/- The judge told: bitshift, operators of one object. -/
namespace Go.Ev
open Go
variable {T : Tab} {st st' : St}
def Zld (n k:Int):Int:=if 32≤k∨k≤-32 then 0 else if 0≤k then IntKind.i64.wrap (IntKind.i32.wrap (Zyc .u32 (IntKind.u32.wrap n) k))else IntKind.i64.wrap (IntKind.i32.wrap (Zed .u32 (IntKind.u32.wrap n) (-k)))
def P4 (ops:List Ob):R2:=if Yq ops [4,4]≠0 then(Yq ops [4,4],[])else Zbq ops 2 ⟨3,false,Zld (Jf ops 2 0).n (Jf ops 2 1).n,[],0,0,0⟩
theorem Zww (H:B.Xo T) (hwf:st.Wf) {v0 v1 v2:AV} {r:List AV} (hR:Rest v1 r) {ops:List Ob} {hp:List Ce} (r0:RdO st.h v0 ops) (r2:HpR st.h v2 hp) (hb:ops.length<1000000):
  Qt (call T (.fn 342 [] []) [.agg (v0::v1::v2::r)] st) fun w s=>Ext st s∧Ans s w v0 v1 v2 r (P4 ops).1 (P4 ops).2:=by
 refine Zw H.e H.f rfl ?_
 have hlen:=hR.len
 have ht:=hR.take
 have s0:=RdS.sc r0
 have s1:=hR.sc
 have s2:=r2.sc
 have sr:=hR.all
 have z1:∀v,Qd B.Qi 0 (v::v1::v2::r)=v::v1::v2::r:=fun v=>Z8 (by rw[hR.Yn,Zk])
 have d0:¬st.nx+1+1=st.nx:=by omega
 have x0:=(((Ext.refl hwf).Zf (o:= .cells 493 true (v0::v1::v2::r)) (Nat.lt_succ_self st.nx)).Zf (o:= .cells 457 true B.Qi) (Nat.lt_succ_self (st.nx+1))).Zf (o:= .cells 3 false (Nw [4,4])) (Nat.lt_succ_self (st.nx+1+1))
 simp (disch:=omega) [B.K5,go_sem,hlen,ht,d0]
 refine(Wo H.Zy x0.wf hR (r0.ext x0 hwf) s2 hb (Ry [4,4] _ _ _ rfl) (by simp)).mono ?_
 rintro w q1 ⟨x1,⟨he,rfl⟩ | ⟨he,hle,v',rfl,r1⟩⟩
 ·have y1:=x0.trans x1
  have n1:=x1.nx
  have k1:=x1.Zd
  simp only at n1 k1
  have e1:P4 ops=(Yq ops [4,4],[]):=by unfold P4;rw[if_pos he]
  rw[e1]
  simp (disch:=omega) [go_sem,k1,he,d0,hlen,ht,z1,Zk,s0,s1,s2,sr]
  exact⟨(Ext.Qw (st:=st) (h:=q1.h) (m:=q1.nx) (n:=st.nx+1) y1 (by omega)).Zb,.inl ⟨he,rfl⟩⟩
 ·have y1:=x0.trans x1
  have n1:=x1.nx
  have k1:=x1.Zd
  simp only at n1 k1
  obtain⟨n,off,ob,hat⟩:=r1.acc y1.wf
  obtain⟨a01,a02,a03,a04⟩:=hat 0 _ (by omega) (Uu hle (i:=0) (by simp))
  obtain⟨a11,a12,a13,a14⟩:=hat 1 _ (by omega) (Uu hle (i:=1) (by simp))
  simp only[List.length_cons,List.length_nil,Int.reduceToNat,Nat.zero_mul,Nat.one_mul,Nat.zero_add,Nat.add_zero,Nat.reduceAdd,Nat.reduceMul]at a03 a04 a13 a14 hle
  have e1:P4 ops=Zbq ops 2 ⟨3,false,Zld (Jf ops 2 0).n (Jf ops 2 1).n,[],0,0,0⟩:=by unfold P4;rw[if_neg (by simp[he])]
  rw[e1]
  generalize Jf ops 2 0=oa at*
  generalize Jf ops 2 1=ob2 at*
  have p2:=Jg a04 (i:=2) (by omega)
  have p3:=Jg a14 (i:=2) (by omega)
  simp[Ob.A]at p2 p3
  have y2:=y1.upN (m:=q1.nx+11) (by omega)
  by_cases h1:32≤ob2.n
  ·have e2:Zld oa.n ob2.n=0:=by unfold Zld;rw[if_pos (.inl h1)]
   rw[e2]
   simp (disch:=omega) [go_sem,k1,he,d0,hlen,ht,↓Zp,a02,a03,a12,a13,p2,p3,h1,B.zOb]
   refine(V3 H.Zx y2.wf hR (r0.ext y2 hwf) (r2.ext y2 hwf) hb 2 (by decide) ⟨3,false,0,[],0,0,0⟩).mono ?_
   rintro w q9 ⟨x9,ha⟩
   obtain⟨X,e',rfl,hX,hXs,hXt,hXz⟩:=ha.shape hR s0 s2
   have k9:=x9.Zd
   have y9:=y2.trans x9
   have n9:=x9.nx
   try simp only at n9 k9
   have g:Zh q9.h (st.nx+1)=some (.cells 457 true B.Qi):=by
    rw[k9 _ (by omega)]
    simp (disch:=omega) [k1,Zg,Qm]
   simp (disch:=omega) [go_sem,reI,wanted,k9,k1,d0,hX,hXs,hXt,hXz,Zk]
   have z:=Ext.Qw (st:=st) (h:=q9.h) (m:=q9.nx) (n:=st.nx+1) (o:= .cells 457 true X) y9 (by omega)
   exact⟨z.Zb,Ans.Zb (st:=⟨_,q9.nx⟩) (ha.Z7 g rfl) z.wf⟩
  by_cases h2:ob2.n≤-32
  ·have e2:Zld oa.n ob2.n=0:=by unfold Zld;rw[if_pos (.inr h2)]
   rw[e2]
   simp (disch:=omega) [go_sem,k1,he,d0,hlen,ht,↓Zp,a02,a03,a12,a13,p2,p3,h1,h2,B.zOb]
   refine(V3 H.Zx y2.wf hR (r0.ext y2 hwf) (r2.ext y2 hwf) hb 2 (by decide) ⟨3,false,0,[],0,0,0⟩).mono ?_
   rintro w q9 ⟨x9,ha⟩
   obtain⟨X,e',rfl,hX,hXs,hXt,hXz⟩:=ha.shape hR s0 s2
   have k9:=x9.Zd
   have y9:=y2.trans x9
   have n9:=x9.nx
   try simp only at n9 k9
   have g:Zh q9.h (st.nx+1)=some (.cells 457 true B.Qi):=by
    rw[k9 _ (by omega)]
    simp (disch:=omega) [k1,Zg,Qm]
   simp (disch:=omega) [go_sem,reI,wanted,k9,k1,d0,hX,hXs,hXt,hXz,Zk]
   have z:=Ext.Qw (st:=st) (h:=q9.h) (m:=q9.nx) (n:=st.nx+1) (o:= .cells 457 true X) y9 (by omega)
   exact⟨z.Zb,Ans.Zb (st:=⟨_,q9.nx⟩) (ha.Z7 g rfl) z.wf⟩
  by_cases h3:0≤ob2.n
  ·have e2:Zld oa.n ob2.n=IntKind.i64.wrap (IntKind.i32.wrap (Zyc .u32 (IntKind.u32.wrap oa.n) ob2.n)):=by unfold Zld;rw[if_neg (by omega),if_pos h3]
   rw[e2]
   have h4:¬ob2.n<0:=by omega
   generalize hw:IntKind.i64.wrap (IntKind.i32.wrap (Zyc .u32 (IntKind.u32.wrap oa.n) ob2.n))=W
   simp (disch:=omega) [go_sem,k1,he,d0,hlen,ht,↓Zp,a02,a03,a12,a13,p2,p3,h1,h2,h3,h4,B.zOb,hw]
   refine(V3 H.Zx y2.wf hR (r0.ext y2 hwf) (r2.ext y2 hwf) hb 2 (by decide) ⟨3,false,W,[],0,0,0⟩).mono ?_
   rintro w q9 ⟨x9,ha⟩
   obtain⟨X,e',rfl,hX,hXs,hXt,hXz⟩:=ha.shape hR s0 s2
   have k9:=x9.Zd
   have y9:=y2.trans x9
   have n9:=x9.nx
   try simp only at n9 k9
   have g:Zh q9.h (st.nx+1)=some (.cells 457 true B.Qi):=by
    rw[k9 _ (by omega)]
    simp (disch:=omega) [k1,Zg,Qm]
   simp (disch:=omega) [go_sem,reI,wanted,k9,k1,d0,hX,hXs,hXt,hXz,Zk]
   have z:=Ext.Qw (st:=st) (h:=q9.h) (m:=q9.nx) (n:=st.nx+1) (o:= .cells 457 true X) y9 (by omega)
   exact⟨z.Zb,Ans.Zb (st:=⟨_,q9.nx⟩) (ha.Z7 g rfl) z.wf⟩
  ·have h4:IntKind.i64.wrap (0 - ob2.n)=0 - ob2.n:=Zo (by omega) (by omega)
   have e2:Zld oa.n ob2.n=IntKind.i64.wrap (IntKind.i32.wrap (Zed .u32 (IntKind.u32.wrap oa.n) (-ob2.n))):=by unfold Zld;rw[if_neg (by omega),if_neg h3]
   rw[e2]
   have h5:¬0<ob2.n:=by omega
   have h6:¬-ob2.n<0:=by omega
   have h7:IntKind.i64.wrap (-ob2.n)= -ob2.n:=Zo (by omega) (by omega)
   generalize hw:IntKind.i64.wrap (IntKind.i32.wrap (Zed .u32 (IntKind.u32.wrap oa.n) (-ob2.n)))=W
   simp (disch:=omega) [go_sem,k1,he,d0,hlen,ht,↓Zp,a02,a03,a12,a13,p2,p3,h1,h2,h3,h4,h5,h6,h7,B.zOb,hw]
   refine(V3 H.Zx y2.wf hR (r0.ext y2 hwf) (r2.ext y2 hwf) hb 2 (by decide) ⟨3,false,W,[],0,0,0⟩).mono ?_
   rintro w q9 ⟨x9,ha⟩
   obtain⟨X,e',rfl,hX,hXs,hXt,hXz⟩:=ha.shape hR s0 s2
   have k9:=x9.Zd
   have y9:=y2.trans x9
   have n9:=x9.nx
   try simp only at n9 k9
   have g:Zh q9.h (st.nx+1)=some (.cells 457 true B.Qi):=by
    rw[k9 _ (by omega)]
    simp (disch:=omega) [k1,Zg,Qm]
   simp (disch:=omega) [go_sem,reI,wanted,k9,k1,d0,hX,hXs,hXt,hXz,Zk]
   have z:=Ext.Qw (st:=st) (h:=q9.h) (m:=q9.nx) (n:=st.nx+1) (o:= .cells 457 true X) y9 (by omega)
   exact⟨z.Zb,Ans.Zb (st:=⟨_,q9.nx⟩) (ha.Z7 g rfl) z.wf⟩
def G0 (ops:List Ob) (set:Int) (F:Ob→Ob×Int):R2:=if Yq ops [set]≠0 then(Yq ops [set],[])else if(F (Jf ops 1 0)).2≠0 then((F (Jf ops 1 0)).2,[])else Zbq ops 1 (F (Jf ops 1 0)).1
theorem Ht (H:B.Gi T) (hwf:st.Wf) {v0 v1 v2:AV} {r:List AV} (hR:Rest v1 r) {ops:List Ob} {hp:List Ce} (r0:RdO st.h v0 ops) (r2:HpR st.h v2 hp) (hb:ops.length<1000000) {f:AV} {set:Int} {F:Ob→Ob×Int} (hf:∀s o,Ext st s→Z9 T s f [o.v] (.tuple [(F o).1.v,.int .i64 (F o).2])):
  Qt (call T (.fn 339 [.agg (v0::v1::v2::r)] []) [.int .i64 set,f] st) fun w s=>Ext st s∧Ans s w v0 v1 v2 r (G0 ops set F).1 (G0 ops set F).2:=by
 refine Zw H.e H.f rfl ?_
 have hlen:=hR.len
 have ht:=hR.take
 have s0:=RdS.sc r0
 have s1:=hR.sc
 have s2:=r2.sc
 have sr:=hR.all
 have z1:∀v,Qd B.Qi 0 (v::v1::v2::r)=v::v1::v2::r:=fun v=>Z8 (by rw[hR.Yn,Zk])
 have d0:¬st.nx+1+1=st.nx:=by omega
 have x0:=(((Ext.refl hwf).Zf (o:= .cells 493 true (v0::v1::v2::r)) (Nat.lt_succ_self st.nx)).Zf (o:= .cells 457 true B.Qi) (Nat.lt_succ_self (st.nx+1))).Zf (o:= .cells 3 false (Nw [set])) (Nat.lt_succ_self (st.nx+1+1))
 simp (disch:=omega) [B.Jr,go_sem,hlen,ht,d0]
 refine(Wo H.Zy x0.wf hR (r0.ext x0 hwf) s2 hb (Ry [set] _ _ _ rfl) (by simp)).mono ?_
 rintro w q1 ⟨x1,⟨he,rfl⟩ | ⟨he,hle,v',rfl,r1⟩⟩
 ·have y1:=x0.trans x1
  have n1:=x1.nx
  have k1:=x1.Zd
  simp only at n1 k1
  have e1:G0 ops set F=(Yq ops [set],[]):=by unfold G0;rw[if_pos he]
  rw[e1]
  simp (disch:=omega) [go_sem,k1,he,d0,hlen,ht,z1,Zk,s0,s1,s2,sr]
  exact⟨(Ext.Qw (st:=st) (h:=q1.h) (m:=q1.nx) (n:=st.nx+1) y1 (by omega)).Zb,.inl ⟨he,rfl⟩⟩
 ·have y1:=x0.trans x1
  have n1:=x1.nx
  have k1:=x1.Zd
  simp only at n1 k1
  obtain⟨n,off,ob,hat⟩:=r1.acc y1.wf
  obtain⟨a01,a02,a03,a04⟩:=hat 0 _ (by omega) (Uu hle (i:=0) (by simp))
  simp only[List.length_cons,List.length_nil,Int.reduceToNat,Nat.zero_mul,Nat.one_mul,Nat.zero_add,Nat.add_zero,Nat.reduceAdd,Nat.reduceMul]at a03 a04 hle
  generalize hoa:Jf ops 1 0=oa at*
  simp (disch:=omega) [go_sem,k1,he,d0,hlen,ht,↓Zp,a02,a03,a04]
  refine(hf q1 oa y1).use fun q2 x2=> ?_
  have k2:=x2.Zd
  have y3:=y1.trans x2
  have n2:=x2.nx
  have d1:¬q2.nx=st.nx:=by omega
  have d2:¬q2.nx=st.nx+1:=by omega
  by_cases h0:(F oa).2=0
  ·have e1:G0 ops set F=Zbq ops 1 (F oa).1:=by unfold G0;rw[if_neg (by simp[he]),hoa,if_neg (by simp[h0])]
   rw[e1]
   generalize (F oa).1=fo at*
   have y4:=y3.Zf (o:= .cells 451 true fo.A) (Nat.lt_succ_self q2.nx)
   simp (disch:=omega) [go_sem,k2,k1,h0,d0,d1,d2,hlen,ht,B.zOb]
   refine(V3 H.Zx y4.wf hR (r0.ext y4 hwf) (r2.ext y4 hwf) hb 1 (by decide) fo).mono ?_
   rintro w q9 ⟨x9,ha⟩
   obtain⟨X,e',rfl,hX,hXs,hXt,hXz⟩:=ha.shape hR s0 s2
   have k9:=x9.Zd
   have y9:=y4.trans x9
   have n9:=x9.nx
   try simp only at n9 k9
   have g:Zh q9.h (st.nx+1)=some (.cells 457 true B.Qi):=by
    rw[k9 _ (by omega)]
    simp (disch:=omega) [k2,k1,Zg,Qm,d1,d2]
   simp (disch:=omega) [go_sem,reI,wanted,k9,k2,k1,d0,hX,hXs,hXt,hXz,Zk,d1,d2]
   have z:=Ext.Qw (st:=st) (h:=q9.h) (m:=q9.nx) (n:=st.nx+1) (o:= .cells 457 true X) y9 (by omega)
   exact⟨z.Zb,Ans.Zb (st:=⟨_,q9.nx⟩) (ha.Z7 g rfl) z.wf⟩
  ·have e1:G0 ops set F=((F oa).2,[]):=by unfold G0;rw[if_neg (by simp[he]),hoa,if_pos (by simpa using h0)]
   rw[e1]
   generalize (F oa).1=fo at*
   have y4:=y3.Zf (o:= .cells 451 true fo.A) (Nat.lt_succ_self q2.nx)
   simp (disch:=omega) [go_sem,k2,k1,h0,d0,d1,d2,hlen,ht,B.zOb,z1,Zk,s0,s1,s2,sr]
   have y5:∀p q,Ext st ⟨(q2.nx,p)::Z7 q2.h (st.nx+1) q,q2.nx+1⟩:=fun p q=>(Ext.Qw (st:=st) (h:=q2.h) (m:=q2.nx) (n:=st.nx+1) y3 (by omega)).Zf (Nat.lt_succ_self _)
   exact⟨(y5 _ _).Zb,.inl ⟨h0,rfl⟩⟩
def No (ops:List Ob) (hp:List Ce) (f:Int→Bool):R2:=
 if Yq ops [5,0]≠0 then(Yq ops [5,0],[])
 else if(Jf ops 2 0).k=6 then(if Js 2 (Jf ops 2 1).k=true then Zbq ops 2 (Qp (f (Lib.compareBytes (Jn hp (Jf ops 2 0)).1 (Jn hp (Jf ops 2 1)).1)))else(22,[]))
 else(if Js 1 (Jf ops 2 1).k=true then Zbq ops 2 (Qp (f (O6 (Jf ops 2 0) (Jf ops 2 1)).1))else(22,[]))
theorem Zig (H:B.Lp T) (hwf:st.Wf) {v0 v1 v2:AV} {r:List AV} (hR:Rest v1 r) {ops:List Ob} {hp:List Ce} (r0:RdO st.h v0 ops) (r2:HpR st.h v2 hp) (hb:ops.length<1000000) {fv:AV} {f:Int→Bool} (hf:∀s c,s.Wf→Z9 T s fv [.int .i64 c] (.bool (f c))):
  Qt (call T (.fn 334 [] []) [.agg (v0::v1::v2::r),fv] st) fun w s=>Ext st s∧Ans s w v0 v1 v2 r (No ops hp f).1 (No ops hp f).2:=by
 refine Zw H.e H.f rfl ?_
 have hlen:=hR.len
 have ht:=hR.take
 have s0:=RdS.sc r0
 have s1:=hR.sc
 have s2:=r2.sc
 have sr:=hR.all
 have z1:∀v,Qd B.Qi 0 (v::v1::v2::r)=v::v1::v2::r:=fun v=>Z8 (by rw[hR.Yn,Zk])
 have d0:¬st.nx+1+1=st.nx:=by omega
 have x0:=(((Ext.refl hwf).Zf (o:= .cells 493 true (v0::v1::v2::r)) (Nat.lt_succ_self st.nx)).Zf (o:= .cells 457 true B.Qi) (Nat.lt_succ_self (st.nx+1))).Zf (o:= .cells 3 false (Nw [5,0])) (Nat.lt_succ_self (st.nx+1+1))
 simp (disch:=omega) [B.Jp,go_sem,hlen,ht,d0]
 refine(Wo H.Zy x0.wf hR (r0.ext x0 hwf) s2 hb (Ry [5,0] _ _ _ rfl) (by simp)).mono ?_
 rintro w q1 ⟨x1,⟨he,rfl⟩ | ⟨he,hle,v',rfl,r1⟩⟩
 ·have y1:=x0.trans x1
  have n1:=x1.nx
  have k1:=x1.Zd
  simp only at n1 k1
  have e1:No ops hp f=(Yq ops [5,0],[]):=by unfold No;rw[if_pos he]
  rw[e1]
  simp (disch:=omega) [go_sem,k1,he,d0,hlen,ht,z1,Zk,s0,s1,s2,sr]
  exact⟨(Ext.Qw (st:=st) (h:=q1.h) (m:=q1.nx) (n:=st.nx+1) y1 (by omega)).Zb,.inl ⟨he,rfl⟩⟩
 ·have y1:=x0.trans x1
  have n1:=x1.nx
  have k1:=x1.Zd
  simp only at n1 k1
  obtain⟨n,off,ob,hat⟩:=r1.acc y1.wf
  obtain⟨a01,a02,a03,a04⟩:=hat 0 _ (by omega) (Uu hle (i:=0) (by simp))
  obtain⟨a11,a12,a13,a14⟩:=hat 1 _ (by omega) (Uu hle (i:=1) (by simp))
  simp only[List.length_cons,List.length_nil,Int.reduceToNat,Nat.zero_mul,Nat.one_mul,Nat.zero_add,Nat.add_zero,Nat.reduceAdd,Nat.reduceMul]at a03 a04 a13 a14 hle
  by_cases hk:(Jf ops 2 0).k=6
  ·by_cases hal:Js 2 (Jf ops 2 1).k=true
   ·have e1:No ops hp f=Zbq ops 2 (Qp (f (Lib.compareBytes (Jn hp (Jf ops 2 0)).1 (Jn hp (Jf ops 2 1)).1))):=by unfold No;rw[if_neg (by simp[he]),if_pos hk,if_pos hal]
    rw[e1]
    generalize Jf ops 2 0=oa at*
    generalize Jf ops 2 1=ob2 at*
    have p0:=Jg a04 (i:=0) (by omega)
    have p1:=Jg a14 (i:=0) (by omega)
    simp only[Nat.add_zero]at p0 p1
    simp[Ob.A]at p0 p1
    simp (disch:=omega) [go_sem,k1,he,d0,hlen,ht,↓Zp,a02,a03,a12,a13,p0,p1,eq_true hk]
    refine(Gs H.Qc y1.wf 2 ob2.k).use fun q2 x2=> ?_
    have k2:=x2.Zd
    have y2:=y1.trans x2
    have n2:=x2.nx
    have y3:=y2.upN (m:=q2.nx+12) (by omega)
    simp (disch:=omega) [go_sem,k2,k1,hal,d0,hlen,ht,↓Zp,a02,a03,a04,a12,a13]
    refine(Mo H.Kc y3.wf (r2.ext y3 hwf) oa).use fun q3 x3=> ?_
    have k3:=x3.Zd
    have y4:=y3.trans x3
    have n3:=x3.nx
    simp only at k3 n3
    have y5:=y4.upN (m:=q3.nx+12) (by omega)
    simp (disch:=omega) [go_sem,reI,wanted,k3,k2,k1,d0,hlen,ht,↓Zp,a02,a03,a04,a12,a13,a14]
    refine(Mo H.Kc y5.wf (r2.ext y5 hwf) ob2).use fun q4 x4=> ?_
    have k4:=x4.Zd
    have y6:=y5.trans x4
    have n4:=x4.nx
    simp only at k4 n4
    simp (disch:=omega) [go_sem,reI,wanted,k4,k3,k2,k1,d0,hlen,ht,↓Zp,a02,a03,a04,a12,a13,a14,Rn H.strings_Compare.en,B.Vn]
    generalize Lib.compareBytes (Jn hp oa).1 (Jn hp ob2).1=c
    have y7:=y6.upN (m:=q4.nx+12) (by omega)
    refine(hf _ c y7.wf).use fun q5 x5=> ?_
    have k5:=x5.Zd
    have y8:=y7.trans x5
    have n5:=x5.nx
    simp only at k5 n5
    simp (disch:=omega) [go_sem,reI,wanted,k5,k4,k3,k2,k1,d0,hlen,ht]
    refine(Lf H.Kp y8.wf (f c)).use fun q6 x6=> ?_
    have k6:=x6.Zd
    have y10:=y8.trans x6
    have n6:=x6.nx
    simp (disch:=omega) [go_sem,reI,wanted,k6,k5,k4,k3,k2,k1,d0,hlen,ht]
    refine(V3 H.Zx y10.wf hR (r0.ext y10 hwf) (r2.ext y10 hwf) hb 2 (by decide) (Qp (f c))).mono ?_
    rintro w q9 ⟨x9,ha⟩
    obtain⟨X,e',rfl,hX,hXs,hXt,hXz⟩:=ha.shape hR s0 s2
    have k9:=x9.Zd
    have y9:=y10.trans x9
    have n9:=x9.nx
    try simp only at n9 k9
    have g:Zh q9.h (st.nx+1)=some (.cells 457 true B.Qi):=by
     rw[k9 _ (by omega)]
     simp (disch:=omega) [k6,k5,k4,k3,k2,k1,Zg,Qm]
    simp (disch:=omega) [go_sem,reI,wanted,k9,k6,k5,k4,k3,k2,k1,d0,hX,hXs,hXt,hXz,Zk]
    have z:=Ext.Qw (st:=st) (h:=q9.h) (m:=q9.nx) (n:=st.nx+1) (o:= .cells 457 true X) y9 (by omega)
    exact⟨z.Zb,Ans.Zb (st:=⟨_,q9.nx⟩) (ha.Z7 g rfl) z.wf⟩
   ·have hal':Js 2 (Jf ops 2 1).k=false:=by simpa using hal
    have e1:No ops hp f=(22,[]):=by unfold No;rw[if_neg (by simp[he]),if_pos hk,if_neg hal]
    rw[e1]
    generalize Jf ops 2 0=oa at*
    generalize Jf ops 2 1=ob2 at*
    have p0:=Jg a04 (i:=0) (by omega)
    have p1:=Jg a14 (i:=0) (by omega)
    simp only[Nat.add_zero]at p0 p1
    simp[Ob.A]at p0 p1
    simp (disch:=omega) [go_sem,k1,he,d0,hlen,ht,↓Zp,a02,a03,a12,a13,p0,p1,eq_true hk]
    refine(Gs H.Qc y1.wf 2 ob2.k).use fun q2 x2=> ?_
    have k2:=x2.Zd
    have y2:=y1.trans x2
    have n2:=x2.nx
    simp (disch:=omega) [go_sem,reI,wanted,k2,k1,hal',he,d0,hlen,ht,z1,Zk,s0,s1,s2,sr]
    exact⟨(Ext.Qw (st:=st) (h:=q2.h) (m:=q2.nx) (n:=st.nx+1) (y2.upN (by omega)) (by omega)).Zb,.inl ⟨by decide,rfl⟩⟩
  ·by_cases hal:Js 1 (Jf ops 2 1).k=true
   ·have e1:No ops hp f=Zbq ops 2 (Qp (f (O6 (Jf ops 2 0) (Jf ops 2 1)).1)):=by unfold No;rw[if_neg (by simp[he]),if_neg hk,if_pos hal]
    rw[e1]
    generalize Jf ops 2 0=oa at*
    generalize Jf ops 2 1=ob2 at*
    have p0:=Jg a04 (i:=0) (by omega)
    have p1:=Jg a14 (i:=0) (by omega)
    simp only[Nat.add_zero]at p0 p1
    simp[Ob.A]at p0 p1
    simp (disch:=omega) [go_sem,k1,he,d0,hlen,ht,↓Zp,a02,a03,a12,a13,p0,p1,hk]
    refine(Gs H.Qc y1.wf 1 ob2.k).use fun q2 x2=> ?_
    have k2:=x2.Zd
    have y2:=y1.trans x2
    have n2:=x2.nx
    have y3:=y2.upN (m:=q2.nx+11) (by omega)
    simp (disch:=omega) [go_sem,k2,k1,hal,d0,hlen,ht,↓Zp,a02,a03,a04,a12,a13,a14]
    refine(Zgu H.Vj y3.wf oa ob2).use fun q3 x3=> ?_
    have k3:=x3.Zd
    have y4:=y3.trans x3
    have n3:=x3.nx
    simp only at k3 n3
    have y5:=y4.upN (m:=q3.nx+12) (by omega)
    simp (disch:=omega) [go_sem,reI,wanted,k3,k2,k1,d0,hlen,ht,a02,a03,a04,a12,a13,a14]
    generalize (O6 oa ob2).1=c
    refine(hf _ c y5.wf).use fun q5 x5=> ?_
    have k5:=x5.Zd
    have y8:=y5.trans x5
    have n5:=x5.nx
    simp only at k5 n5
    simp (disch:=omega) [go_sem,reI,wanted,k5,k3,k2,k1,d0,hlen,ht]
    refine(Lf H.Kp y8.wf (f c)).use fun q6 x6=> ?_
    have k6:=x6.Zd
    have y10:=y8.trans x6
    have n6:=x6.nx
    simp (disch:=omega) [go_sem,reI,wanted,k6,k5,k3,k2,k1,d0,hlen,ht]
    refine(V3 H.Zx y10.wf hR (r0.ext y10 hwf) (r2.ext y10 hwf) hb 2 (by decide) (Qp (f c))).mono ?_
    rintro w q9 ⟨x9,ha⟩
    obtain⟨X,e',rfl,hX,hXs,hXt,hXz⟩:=ha.shape hR s0 s2
    have k9:=x9.Zd
    have y9:=y10.trans x9
    have n9:=x9.nx
    try simp only at n9 k9
    have g:Zh q9.h (st.nx+1)=some (.cells 457 true B.Qi):=by
     rw[k9 _ (by omega)]
     simp (disch:=omega) [k6,k5,k3,k2,k1,Zg,Qm]
    simp (disch:=omega) [go_sem,reI,wanted,k9,k6,k5,k3,k2,k1,d0,hX,hXs,hXt,hXz,Zk]
    have z:=Ext.Qw (st:=st) (h:=q9.h) (m:=q9.nx) (n:=st.nx+1) (o:= .cells 457 true X) y9 (by omega)
    exact⟨z.Zb,Ans.Zb (st:=⟨_,q9.nx⟩) (ha.Z7 g rfl) z.wf⟩
   ·have hal':Js 1 (Jf ops 2 1).k=false:=by simpa using hal
    have e1:No ops hp f=(22,[]):=by unfold No;rw[if_neg (by simp[he]),if_neg hk,if_neg hal]
    rw[e1]
    generalize Jf ops 2 0=oa at*
    generalize Jf ops 2 1=ob2 at*
    have p0:=Jg a04 (i:=0) (by omega)
    have p1:=Jg a14 (i:=0) (by omega)
    simp only[Nat.add_zero]at p0 p1
    simp[Ob.A]at p0 p1
    simp (disch:=omega) [go_sem,k1,he,d0,hlen,ht,↓Zp,a02,a03,a12,a13,p0,p1,hk]
    refine(Gs H.Qc y1.wf 1 ob2.k).use fun q2 x2=> ?_
    have k2:=x2.Zd
    have y2:=y1.trans x2
    have n2:=x2.nx
    simp (disch:=omega) [go_sem,reI,wanted,k2,k1,hal',he,d0,hlen,ht,z1,Zk,s0,s1,s2,sr]
    exact⟨(Ext.Qw (st:=st) (h:=q2.h) (m:=q2.nx) (n:=st.nx+1) (y2.upN (by omega)) (by omega)).Zb,.inl ⟨by decide,rfl⟩⟩
end Go.Ev

/- The judge told: conversions of one object. -/
namespace Go.Ev
open Go
variable {T : Tab} {st st' : St}
def Zg4 (o:Ob):Ob×Int:=U1 (Ib (Cn o).1 true)
theorem Zo2 (H:B.C0 T) (hwf:st.Wf) (o:Ob):Z9 T st (.fn 345 [] []) [o.v] (.tuple [(Zg4 o).1.v,.int .i64 (Zg4 o).2]):=by
 refine Zm H.e H.f rfl ?_
 have x0:=((Ext.refl hwf).Zf (o:= .cells 451 true o.A) (Nat.lt_succ_self st.nx)).Zf (o:= .cells 451 true B.zOb) (Nat.lt_succ_self (st.nx+1))
 simp[B.Na,go_sem]
 refine(Zo1 H.Wb x0.wf o).use fun s1 x1=> ?_
 have k1:=x1.Zd
 have y1:=x0.trans x1
 have n1:=x1.nx
 simp only at k1 n1
 simp (disch:=omega) [go_sem,k1]
 refine(Zb5 H.Xl y1.wf _ true).use fun s2 x2=> ?_
 have k2:=x2.Zd
 have y2:=y1.trans x2
 have n2:=x2.nx
 rw[show U1 (Ib (Cn o).1 true)=Zg4 o from rfl]
 generalize Zg4 o=p
 simp (disch:=omega) [go_sem,k2,k1,B.zOb]
 exact Ext.Qw (st:=st) (h:=s2.h) (m:=s2.nx) y2 (by omega)
def xF (o:Ob):Ob×Int:=(Qp o.x,0)
theorem Zvq (H:B.Oy T) (hwf:st.Wf) (o:Ob):Z9 T st (.fn 346 [] []) [o.v] (.tuple [(xF o).1.v,.int .i64 (xF o).2]):=by
 refine Zm H.e H.f rfl ?_
 have x0:=((Ext.refl hwf).Zf (o:= .cells 451 true o.A) (Nat.lt_succ_self st.nx)).Zf (o:= .cells 451 true B.zOb) (Nat.lt_succ_self (st.nx+1))
 simp[B.Hs,go_sem]
 refine(Lf H.Kp x0.wf o.x).use fun s1 x1=> ?_
 have k1:=x1.Zd
 have y1:=x0.trans x1
 have n1:=x1.nx
 simp only at k1 n1
 simp (disch:=omega) [go_sem,k1,xF,B.zOb]
 exact Ext.Qw (st:=st) (h:=s1.h) (m:=s1.nx) y1 (by omega)
theorem T7 (H:B.Ri T) (hwf:st.Wf) (b:Bool):Qt (call T (.fn 347 [] []) [.bool b] st) fun w s=>Ext st s∧∃n,w= .fn 389 [] [.ptr n 0]∧Zh s.h n=some (.cells 4 false [.bool b]):=by
 refine Zw H.e H.f rfl ?_
 have x0:=(Ext.refl hwf).Zf (o:= .cells 4 false [.bool b]) (Nat.lt_succ_self st.nx)
 simp[B.Kl,go_sem]
 exact⟨x0.Zb,Qh (st:=⟨(st.nx,.cells 4 false [.bool b])::st.h,st.nx+1⟩) x0.wf (by simp[Zg]) rfl⟩
def T5 (b:Bool) (o:Ob):Ob×Int:=({o with x:=b},0)
theorem Fh (H:B.Mf T) (hwf:st.Wf) (b:Bool) {n:Nat} (hn:Zh st.h n=some (.cells 4 false [.bool b])) (o:Ob):Z9 T st (.fn 389 [] [.ptr n 0]) [o.v] (.tuple [(T5 b o).1.v,.int .i64 (T5 b o).2]):=by
 refine Zm H.e H.f rfl ?_
 have hlt:=hwf.lt _ _ hn
 have d1:¬st.nx=n:=by omega
 have d2:¬st.nx+1=n:=by omega
 simp (disch:=omega) [B.Kz,go_sem,B.zOb,hn,d1,d2,T5]
 exact((Ext.refl hwf).Zf (Nat.lt_succ_self _)).Zf (Nat.lt_succ_self _)
def Zki (hp:List Ce) (o:Ob):Ob×Int:=if(U1 (Ib (Jn hp o).1 o.x)).2=0 then((U1 (Ib (Jn hp o).1 o.x)).1,0)else(obZ,23)
theorem Zf3 (H:B.Ni T) (hwf:st.Wf) {v0 v1 v2:AV} {r:List AV} (hR:Rest v1 r) {hp:List Ce} (r2:HpR st.h v2 hp) (o:Ob):Z9 T st (.fn 348 [.agg (v0::v1::v2::r)] []) [o.v] (.tuple [(Zki hp o).1.v,.int .i64 (Zki hp o).2]):=by
 refine Zm H.e H.f rfl ?_
 have hlen:=hR.len
 have ht:=hR.take
 have x0:=(((Ext.refl hwf).Zf (o:= .cells 493 true (v0::v1::v2::r)) (Nat.lt_succ_self st.nx)).Zf (o:= .cells 451 true o.A) (Nat.lt_succ_self (st.nx+1))).Zf (o:= .cells 451 true B.zOb) (Nat.lt_succ_self (st.nx+1+1))
 have d0:¬st.nx+1+1=st.nx:=by omega
 simp[B.Vu,go_sem,hlen,ht,d0]
 refine(Mo H.Kc x0.wf (r2.ext x0 hwf) o).use fun s1 x1=> ?_
 have k1:=x1.Zd
 have y1:=x0.trans x1
 have n1:=x1.nx
 simp only at k1 n1
 simp (disch:=omega) [go_sem,k1,d0]
 refine(Zb5 H.Xl y1.wf _ o.x).use fun s2 x2=> ?_
 have k2:=x2.Zd
 have y2:=y1.trans x2
 have n2:=x2.nx
 unfold Zki
 generalize U1 (Ib (Jn hp o).1 o.x)=p
 have d1:¬s2.nx=st.nx:=by omega
 have d2:¬s2.nx=st.nx+1:=by omega
 have d3:¬s2.nx=st.nx+1+1:=by omega
 have z:∀p q,Ext st ⟨(s2.nx,p)::Z7 s2.h (st.nx+1+1) q,s2.nx+1⟩:=fun p q=>(Ext.Qw (st:=st) (h:=s2.h) (m:=s2.nx) (n:=st.nx+1+1) y2 (by omega)).Zf (Nat.lt_succ_self _)
 by_cases hp0:p.2=0
 ·simp (disch:=omega) [go_sem,k2,k1,B.zOb,d0,d1,d2,d3,hp0]
  exact z _ _
 ·simp (disch:=omega) [go_sem,k2,k1,B.zOb,d0,d1,d2,d3,hp0,obZ]
  exact z _ _
def Zrj (hp:List Ce) (o:Ob):Ob×Int:=
 if o.k=6 then
  if(Zcz (Jn hp o).1).2.2=5 then(obZ,22)else if(Zcz (Jn hp o).1).2.2=0 then(if(Zcz (Jn hp o).1).1=2 then U1 (Uc (Zcz (Jn hp o).1).2.1)else U1 (Jc (Zcz (Jn hp o).1).2.1))else(obZ,23)
 else(o,0)
theorem Zee (H:B.Mg T) (hwf:st.Wf) {v0 v1 v2:AV} {r:List AV} (hR:Rest v1 r) {hp:List Ce} (hs:HpS hp) (r2:HpR st.h v2 hp) (o:Ob):Z9 T st (.fn 423 [] []) [.agg (v0::v1::v2::r),o.v] (.tuple [(Zrj hp o).1.v,.int .i64 (Zrj hp o).2]):=by
 refine Zm H.e H.f rfl ?_
 have hlen:=hR.len
 have ht:=hR.take
 have x0:=(((Ext.refl hwf).Zf (o:= .cells 493 true (v0::v1::v2::r)) (Nat.lt_succ_self st.nx)).Zf (o:= .cells 451 true o.A) (Nat.lt_succ_self (st.nx+1))).Zf (o:= .cells 451 true B.zOb) (Nat.lt_succ_self (st.nx+1+1))
 have xx:∀p q u,Ext st ⟨(st.nx+1+1,u)::(st.nx+1,q)::(st.nx,p)::st.h,st.nx+1+1+1⟩:=fun p q u=>(((Ext.refl hwf).Zf (Nat.lt_succ_self st.nx)).Zf (Nat.lt_succ_self (st.nx+1))).Zf (Nat.lt_succ_self (st.nx+1+1))
 have d0:¬st.nx+1+1=st.nx:=by omega
 have d00:¬st.nx+1+1=st.nx+1:=by omega
 by_cases hk:o.k=6
 ·have hbl:(Jn hp o).1.length<4000000000000000000:=by
   unfold Jn
   split
   ·cases hc:Zdl hp o.r with
    | none=>simp
    | some c=>
      have:=hs.2 c (List.mem_of_getElem? hc)
      simp only[Zzc,List.length_take,List.length_drop]
      omega
   ·simp
  simp (disch:=omega) [B.K0,go_sem,hlen,ht,d0,d00,eq_true hk]
  refine(Mo H.Kc x0.wf (r2.ext x0 hwf) o).use fun s1 x1=> ?_
  have k1:=x1.Zd
  have y1:=x0.trans x1
  have n1:=x1.nx
  simp only at k1 n1
  simp (disch:=omega) [go_sem,k1,d0]
  refine(Zo9 H.Hk y1.wf hbl).use fun s2 x2=> ?_
  have k2:=x2.Zd
  have y2:=y1.trans x2
  have n2:=x2.nx
  unfold Zrj
  rw[if_pos hk]
  generalize Zcz (Jn hp o).1=t
  obtain⟨tk,tn,te⟩:=t
  have d1:¬s2.nx=st.nx:=by omega
  have d2:¬s2.nx=st.nx+1:=by omega
  have d3:¬s2.nx=st.nx+1+1:=by omega
  have z:∀p q,Ext st ⟨(s2.nx,p)::Z7 s2.h (st.nx+1+1) q,s2.nx+1⟩:=fun p q=>(Ext.Qw (st:=st) (h:=s2.h) (m:=s2.nx) (n:=st.nx+1+1) y2 (by omega)).Zf (Nat.lt_succ_self _)
  have y3:=y2.Zf (o:= .cells 134 true [.int .i64 tk,.int .i64 tn,.str []]) (Nat.lt_succ_self s2.nx)
  by_cases h5:te=5
  ·simp (disch:=omega) [go_sem,k2,k1,toA,X5,R7,B.zOb,d0,d1,d2,d3,h5,obZ]
   exact z _ _
  by_cases h0:te=0
  ·by_cases h2:tk=2
   ·simp (disch:=omega) [go_sem,k2,k1,toA,X5,R7,B.zOb,d0,d1,d2,d3,h0,h2]
    rw[h2]at y3
    refine(Zb6 H.Xm y3.wf tn).use fun s3 x3=> ?_
    have k3:=x3.Zd
    have y4:=y3.trans x3
    have n3:=x3.nx
    simp only at k3 n3
    generalize U1 (Uc tn)=p
    simp (disch:=omega) [go_sem,k3,k2,k1,B.zOb,d0,d1,d2,d3]
    exact Ext.Qw (st:=st) (h:=s3.h) (m:=s3.nx) y4 (by omega)
   ·simp (disch:=omega) [go_sem,k2,k1,toA,X5,R7,B.zOb,d0,d1,d2,d3,h0,h2]
    refine(Zey H.Mu y3.wf tn).use fun s3 x3=> ?_
    have k3:=x3.Zd
    have y4:=y3.trans x3
    have n3:=x3.nx
    simp only at k3 n3
    generalize U1 (Jc tn)=p
    simp (disch:=omega) [go_sem,k3,k2,k1,B.zOb,d0,d1,d2,d3]
    exact Ext.Qw (st:=st) (h:=s3.h) (m:=s3.nx) y4 (by omega)
  ·simp (disch:=omega) [go_sem,k2,k1,toA,X5,R7,B.zOb,d0,d1,d2,d3,h5,h0,obZ]
   exact z _ _
 ·simp (disch:=omega) [B.K0,go_sem,hlen,ht,d0,d00,hk,B.zOb,Zrj]
  exact xx _ _ _
def Tx (hp:List Ce) (G:Ob→Ob×Int) (o:Ob):Ob×Int:=if(Zrj hp o).2=0 then G (Zrj hp o).1 else(obZ,(Zrj hp o).2)
theorem Zbt (H:B.U3 T) (hwf:st.Wf) {v0 v1 v2:AV} {r:List AV} (hR:Rest v1 r) (s0:v0.sc=true) (s2:v2.sc=true) (f:Nat):Qt (call T (.fn 349 [] []) [.agg (v0::v1::v2::r),.fn f [] []] st) fun w s=>Ext st s∧∃n m,w= .fn 390 [] [.ptr n 0,.ptr m 0]∧Zh s.h n=some (.cells 493 false (v0::v1::v2::r))∧Zh s.h m=some (.cells 504 false [.fn f [] []]):=by
 refine Zw H.e H.f rfl ?_
 have x0:=((Ext.refl hwf).Zf (o:= .cells 493 false (v0::v1::v2::r)) (Nat.lt_succ_self st.nx)).Zf (o:= .cells 504 false [.fn f [] []]) (Nat.lt_succ_self (st.nx+1))
 simp[B.Q0,go_sem]
 exact⟨x0.Zb,st.nx,st.nx+1,⟨rfl,rfl⟩,Qh (st:=⟨(st.nx+1,.cells 504 false [.fn f [] []])::(st.nx,.cells 493 false (v0::v1::v2::r))::st.h,st.nx+1+1⟩) x0.wf (by simp[Zg]) rfl,
  Qh (st:=⟨(st.nx+1,.cells 504 false [.fn f [] []])::(st.nx,.cells 493 false (v0::v1::v2::r))::st.h,st.nx+1+1⟩) x0.wf (by simp[Zg]) rfl⟩
theorem Im (H:B.V9 T) (hwf:st.Wf) {v0 v1 v2:AV} {r:List AV} (hR:Rest v1 r) {hp:List Ce} (hs:HpS hp) (r2:HpR st.h v2 hp) {f:Nat} {G:Ob→Ob×Int} (hG:∀s o,s.Wf→Z9 T s (.fn f [] []) [o.v] (.tuple [(G o).1.v,.int .i64 (G o).2])) {n m:Nat} (hn:Zh st.h n=some (.cells 493 false (v0::v1::v2::r))) (hm:Zh st.h m=some (.cells 504 false [.fn f [] []])) (o:Ob):
  Z9 T st (.fn 390 [] [.ptr n 0,.ptr m 0]) [o.v] (.tuple [(Tx hp G o).1.v,.int .i64 (Tx hp G o).2]):=by
 refine Zm H.e H.f rfl ?_
 have hlen:=hR.len
 have ht:=hR.take
 have hnl:=hwf.lt _ _ hn
 have hml:=hwf.lt _ _ hm
 have x0:=((Ext.refl hwf).Zf (o:= .cells 451 true o.A) (Nat.lt_succ_self st.nx)).Zf (o:= .cells 451 true B.zOb) (Nat.lt_succ_self (st.nx+1))
 have d1:¬st.nx=n:=by omega
 have d2:¬st.nx+1=n:=by omega
 have d3:¬st.nx=m:=by omega
 have d4:¬st.nx+1=m:=by omega
 simp (disch:=omega) [B.Jh,go_sem,hlen,ht,hn,d1,d2]
 refine(Zee H.K0 x0.wf hR hs (r2.ext x0 hwf) o).use fun s1 x1=> ?_
 have k1:=x1.Zd
 have y1:=x0.trans x1
 have n1:=x1.nx
 simp only at k1 n1
 have e1:¬s1.nx=st.nx:=by omega
 have e2:¬s1.nx=st.nx+1:=by omega
 have e3:¬s1.nx=m:=by omega
 unfold Tx
 generalize Zrj hp o=p
 by_cases h0:p.2=0
 ·have y2:=y1.Zf (o:= .cells 451 true p.1.A) (Nat.lt_succ_self s1.nx)
  simp (disch:=omega) [go_sem,k1,hm,d3,d4,e1,e2,e3,h0,B.zOb]
  refine(hG _ p.1 y2.wf).use fun s2 x2=> ?_
  have k2:=x2.Zd
  have y3:=y2.trans x2
  have n2:=x2.nx
  simp only at k2 n2
  have c1:¬s2.nx=st.nx:=by omega
  have c2:¬s2.nx=st.nx+1:=by omega
  have c3:¬s2.nx=s1.nx:=by omega
  generalize G p.1=q
  simp (disch:=omega) [go_sem,k2,k1,c1,c2,c3,e1,e2,B.zOb]
  exact(Ext.Qw (st:=st) (h:=s2.h) (m:=s2.nx) (n:=st.nx+1) y3 (by omega)).Zf (Nat.lt_succ_self _)
 ·simp (disch:=omega) [go_sem,k1,e1,e2,h0,B.zOb,obZ]
  exact(Ext.Qw (st:=st) (h:=s1.h) (m:=s1.nx) (n:=st.nx+1) y1 (by omega)).Zf (Nat.lt_succ_self _)
end Go.Ev

/- The judge told: texts of objects. -/
namespace Go.Ev
open Go
variable {T : Tab} {st st' : St}
def Zp8 (b:Bool):List UInt8:=if b=true then [116,114,117,101]else [102,97,108,115,101]
def Zacr:List UInt8:=[45,45,110,111,115,116,114,105,110,103,118,97,108,45,45]
def Si (hp:List Ce) (o:Ob):List UInt8:=
 if Yz hp o=true then
  (if o.k=2 then Zp8 (decide (o.n=1))else if o.k=3 then Lib.itoa o.n else if o.k=4 then Hv o.n else if o.k=5 then o.t else if o.k=6 then(Jn hp o).1 else if o.k=10 then o.t else Zacr)
 else []
theorem Zmd (H:B.E8 T) (hwf:st.Wf) {n:Int} (h0: -2147483648≤n) (h1:n≤2147483648):Z9 T st (.fn 404 [] []) [.int .i64 n] (.str (Hv n)):=by
 refine Zm H.e H.f rfl ?_
 simp[B.Ld,go_sem]
 refine(Zh8 H.Hw hwf h0 h1).use fun s1 x1=> ?_
 simp[go_sem,x1]
theorem Zx1 {hp:List Ce} {o:Ob} (h:Yz hp o=true):(o.k=3→-2147483648≤o.n∧o.n≤2147483647)∧(o.k=4→-2147483648≤o.n∧o.n≤2147483648)∧(o.k=2→0≤o.n∧o.n≤1):=by
 simp only[Yz,Bool.and_eq_true,Je,Zl8,decide_eq_true_eq]at h
 obtain⟨⟨_,⟨h1,h2⟩,_⟩,_⟩:=h
 refine⟨fun e=> ?_,fun e=> ?_,fun e=> ?_⟩ <;> rw[e]at h1 h2 <;> exact⟨h1,h2⟩
theorem Zhh (H:B.Cu T) (hwf:st.Wf) (v:AV) (o:Ob):Z9 T st (.fn 362 [] []) [v,o.v] (.str o.t):=by
 refine Zm H.e H.f rfl ?_
 simp[B.Xx,go_sem]
 exact(Ext.refl hwf).Zf (Nat.lt_succ_self st.nx)
theorem Zsc (H:B.Cv T) (hwf:st.Wf) (v:AV) (o:Ob):Z9 T st (.fn 363 [] []) [v,o.v] (.str (Zp8 (decide (o.n=1)))):=by
 refine Zm H.e H.f rfl ?_
 simp[B.M6,go_sem,Rn H.strconv_FormatBool.en,B.K1,Zp8]
 exact(Ext.refl hwf).Zf (Nat.lt_succ_self st.nx)
theorem Zsd (H:B.Cw T) (hwf:st.Wf) (hpw:Pow st) (v:AV) (o:Ob) (h0: -2147483648≤o.n) (h1:o.n≤2147483647):Z9 T st (.fn 364 [] []) [v,o.v] (.str (Lib.itoa o.n)):=by
 refine Zm H.e H.f rfl ?_
 have x0:=(Ext.refl hwf).Zf (o:= .cells 451 true o.A) (Nat.lt_succ_self st.nx)
 have hc:=Zv2 (st:=⟨(st.nx,.cells 451 true o.A)::st.h,st.nx.succ⟩) H.strconv_Itoa (hpw.ext x0 hwf) (n:=o.n) (by omega) (by omega)
 simp only[Ob.A]at hc
 simp[B.M7,go_sem,hc]
 exact x0
theorem Zse (H:B.Cy T) (hwf:st.Wf) (v:AV) (o:Ob) (h0: -2147483648≤o.n) (h1:o.n≤2147483648):Z9 T st (.fn 365 [] []) [v,o.v] (.str (Hv o.n)):=by
 refine Zm H.e H.f rfl ?_
 have x0:=(Ext.refl hwf).Zf (o:= .cells 451 true o.A) (Nat.lt_succ_self st.nx)
 simp[B.M8,go_sem]
 refine(Zmd H.Ld x0.wf h0 h1).use fun s1 x1=> ?_
 simp[go_sem]
 exact x0.trans x1
theorem Zsf (H:B.Cz T) (hwf:st.Wf) {v:AV} {hp:List Ce} (hv:HpR st.h v hp) (o:Ob):Z9 T st (.fn 366 [] []) [v,o.v] (.str (Jn hp o).1):=by
 refine Zm H.e H.f rfl ?_
 have x0:=(Ext.refl hwf).Zf (o:= .cells 451 true o.A) (Nat.lt_succ_self st.nx)
 simp[B.M9,go_sem]
 refine(Mo H.Kc x0.wf (hv.ext x0 hwf) o).use fun s1 x1=> ?_
 simp[go_sem]
 exact x0.trans x1
theorem Ic (H:B.Ds T) (hwf:st.Wf) (hpw:Pow st) {v:AV} {hp:List Ce} (hv:HpR st.h v hp) (o:Ob):Z9 T st (.fn 316 [] []) [v,o.v] (.str (Si hp o)):=by
 refine Zm H.e H.f rfl ?_
 have x0:=(Ext.refl hwf).Zf (o:= .cells 451 true o.A) (Nat.lt_succ_self st.nx)
 simp[B.Xw,go_sem]
 refine(O9 H.W9 x0.wf (hv.ext x0 hwf) o).use fun s1 x1=> ?_
 have k1:=x1.Zd
 have y1:=x0.trans x1
 have n1:=x1.nx
 simp only at k1 n1
 cases hf:Yz hp o with
 | false=>simp (disch:=omega) [go_sem,k1,Si,hf,y1]
 | true=>
 have hc:Je o=true:=by simp only[Yz,Bool.and_eq_true]at hf;exact hf.1
 obtain⟨c0,c1⟩:=Znl hc
 obtain⟨b3,b4,b2⟩:=Zx1 hf
 have hte:Si hp o=(if o.k=2 then Zp8 (decide (o.n=1))else if o.k=3 then Lib.itoa o.n else if o.k=4 then Hv o.n else if o.k=5 then o.t else if o.k=6 then(Jn hp o).1 else if o.k=10 then o.t else Zacr):=by simp[Si,hf]
 rw[hte]
 have hv2:=hv.ext y1 hwf
 obtain⟨W,hW⟩:∃W:List AV,W=[.Jx,.Jx,.fn 363 [] [],.fn 364 [] [],.fn 365 [] [],.fn 362 [] [],.fn 366 [] [],.Jx,.Jx,.Jx,.fn 362 [] [],.Jx,.Jx,.Jx]:=⟨_,rfl⟩
 have y2:=y1.Zf (o:= .cells 526 true W) (Nat.lt_succ_self s1.nx)
 have d1:¬s1.nx=st.nx:=by omega
 have y3:=y2.Zf (o:= .cells 451 true o.A) (Nat.lt_succ_self (s1.nx+1))
 have hk:o.k=0∨o.k=1∨o.k=2∨o.k=3∨o.k=4∨o.k=5∨o.k=6∨o.k=7∨o.k=8∨o.k=9∨o.k=10∨o.k=11∨o.k=12:=by omega
 obtain⟨ok,ox,on,ot,or',oo,ol⟩:=o
 simp only at hk b2 b3 b4
 simp only[hW]at y2
 have hpw2:=(hpw.ext y1 hwf).ext (st:=s1) ((Ext.refl y1.wf).Zf (o:= .cells 526 true W) (Nat.lt_succ_self s1.nx)) y1.wf
 have hv3:=hv2.ext ((Ext.refl y1.wf).Zf (o:= .cells 526 true W) (Nat.lt_succ_self s1.nx)) y1.wf
 simp only[hW]at hpw2 hv3
 rcases hk with e | e | e | e | e | e | e | e | e | e | e | e | e
 all_goals
  subst e
  simp (disch:=omega) [go_sem,k1,List.replicate,d1,Sg]
  try exact⟨rfl,y2⟩
 ·refine(Zsc H.M6 y2.wf v ⟨2,ox,on,ot,or',oo,ol⟩).use fun s2 x2=> ?_
  simp[go_sem]
  exact y2.trans x2
 ·refine(Zsd H.M7 y2.wf hpw2 v ⟨3,ox,on,ot,or',oo,ol⟩ (b3 rfl).1 (b3 rfl).2).use fun s2 x2=> ?_
  simp[go_sem]
  exact y2.trans x2
 ·refine(Zse H.M8 y2.wf v ⟨4,ox,on,ot,or',oo,ol⟩ (b4 rfl).1 (b4 rfl).2).use fun s2 x2=> ?_
  simp[go_sem]
  exact y2.trans x2
 ·refine(Zhh H.Xx y2.wf v ⟨5,ox,on,ot,or',oo,ol⟩).use fun s2 x2=> ?_
  simp[go_sem]
  exact y2.trans x2
 ·refine(Zsf H.M9 y2.wf hv3 ⟨6,ox,on,ot,or',oo,ol⟩).use fun s2 x2=> ?_
  simp[go_sem]
  exact y2.trans x2
 ·refine(Zhh H.Xx y2.wf v ⟨10,ox,on,ot,or',oo,ol⟩).use fun s2 x2=> ?_
  simp[go_sem]
  exact y2.trans x2
end Go.Ev

/- The judge told: texts put into strings. -/
namespace Go.Ev
open Go
variable {T : Tab} {st st' : St}
def Kn (s:St) (w v0 v1 v2:AV) (r:List AV) (e:Int) (ops:List Ob) (hp:List Ce):Prop:=
 (e≠0∧w= .tuple [.agg (v0::v1::v2::r),.int .i64 e])∨(e=0∧∃v' u',w= .tuple [.agg (v'::v1::u'::r),.int .i64 0]∧RdO s.h v' ops∧HpR s.h u' hp)
theorem Kn.Zb {c:Nat} {w v0 v1 v2:AV} {r:List AV} {e:Int} {ops:List Ob} {hp:List Ce} (a:Kn st w v0 v1 v2 r e ops hp) (hw:st.Wf):Kn ⟨Go.Ev.Zb c st.h,st.nx⟩ w v0 v1 v2 r e ops hp:=by
 rcases a with h | ⟨h1,v',u',h2,h3,h4⟩
 ·exact .inl h
 ·exact .inr ⟨h1,v',u',h2,RdS.Zb h3 hw,h4.Zb hw⟩
theorem Kn.Z7 {w v0 v1 v2:AV} {r:List AV} {e:Int} {ops:List Ob} {hp:List Ce} {n:Nat} {o o':Qb} {m:Nat} (a:Kn st w v0 v1 v2 r e ops hp) (hg:Zh st.h n=some o) (ho:o.ow=false):Kn ⟨Go.Ev.Z7 st.h n o',m⟩ w v0 v1 v2 r e ops hp:=by
 rcases a with h | ⟨h1,v',u',h2,h3,h4⟩
 ·exact .inl h
 ·exact .inr ⟨h1,v',u',h2,RdO.Z7 h3 hg ho,h4.Z7 hg ho⟩
theorem Kn.shape {w v0 v1 v2:AV} {r:List AV} {e:Int} {ops:List Ob} {hp:List Ce} (a:Kn st w v0 v1 v2 r e ops hp) (hR:Rest v1 r) (s0:v0.sc=true) (s2:v2.sc=true):∃X e',w= .tuple [.agg X,.int .i64 e']∧X.length=67∧X.all AV.sc=true∧X.take 67=X∧Qd B.Qi 0 X=X:=by
 have key:∀v u,v.sc=true→u.sc=true→(v::v1::u::r).length=67∧(v::v1::u::r).all AV.sc=true:=fun v u hv hu=>⟨hR.Yn _ _,by simp only[List.all_cons,hv,hR.sc,hu,hR.all,Bool.and_self]⟩
 rcases a with ⟨_,rfl⟩ | ⟨_,v',u',rfl,h,h'⟩
 ·have:=key _ _ s0 s2
  exact⟨_,_,rfl,this.1,this.2,Xh this.1,Z8 (by rw[this.1,Zk])⟩
 ·have:=key _ _ (RdS.sc h) h'.sc
  exact⟨_,_,rfl,this.1,this.2,Xh this.1,Z8 (by rw[this.1,Zk])⟩
abbrev R3:=Int×List Ob×List Ce
def A2 (ops:List Ob) (hp:List Ce) (n:Nat) (t:List UInt8) (o:Ob):R3:=
 if(Xb o 0 t.length).2≠0 then((Xb o 0 t.length).2,[],[])
 else if Zme hp o 0 t≠0 then(Zme hp o 0 t,[],[])
 else if Zgi ops n≠0 then(Zgi ops n,[],[])
 else(0,ops.take (ops.length - n)++[(Xb o 0 t.length).1],Zyv hp o 0 t)
theorem Zph (H:B.L0 T) (hwf:st.Wf) {v0 v1 v2:AV} {r:List AV} (hR:Rest v1 r) {ops:List Ob} {hp:List Ce} (hs:HpS hp) (r0:RdO st.h v0 ops) (r2:HpR st.h v2 hp) (hb:ops.length<1000000) (n:Nat) (hn:n<1000000) (t:List UInt8) (htl:t.length<1000000000) (o:Ob):
  Qt (call T (.fn 394 [] []) [.agg (v0::v1::v2::r),.int .i64 n,.str t,o.v] st) fun w s=>Ext st s∧Kn s w v0 v1 v2 r (A2 ops hp n t o).1 (A2 ops hp n t o).2.1 (A2 ops hp n t o).2.2:=by
 refine Zw H.e H.f rfl ?_
 have hlen:=hR.len
 have ht:=hR.take
 have s0:=RdS.sc r0
 have s1:=hR.sc
 have s2:=r2.sc
 have sr:=hR.all
 have z1:∀v,Qd B.Qi 0 (v::v1::v2::r)=v::v1::v2::r:=fun v=>Z8 (by rw[hR.Yn,Zk])
 have x0:=(((Ext.refl hwf).Zf (o:= .cells 493 true (v0::v1::v2::r)) (Nat.lt_succ_self st.nx)).Zf (o:= .cells 451 true o.A) (Nat.lt_succ_self (st.nx+1))).Zf (o:= .cells 457 true B.Qi) (Nat.lt_succ_self (st.nx+1+1))
 have d0:¬st.nx+1+1=st.nx:=by omega
 have d00:¬st.nx+1+1=st.nx+1:=by omega
 simp (disch:=omega) [B.Kx,go_sem,hlen,ht,d0,d00]
 refine(Zjx H.X9 x0.wf o 0 t.length (by omega) (by omega) (by omega)).use fun q1 x1=> ?_
 have k1:=x1.Zd
 have y1:=x0.trans x1
 have n1:=x1.nx
 simp only at k1 n1
 have e1:¬q1.nx=st.nx:=by omega
 have e2:¬q1.nx=st.nx+1:=by omega
 have e3:¬q1.nx=st.nx+1+1:=by omega
 generalize hpe:Xb o 0 t.length=p
 by_cases h1:p.2=0
 rotate_left
 ·rw[show A2 ops hp n t o=(p.2,[],[])by unfold A2;rw[hpe,if_pos h1]]
  simp (disch:=omega) [go_sem,k1,d0,d00,e1,e2,e3,h1,hlen,ht,z1,Zk,s0,s1,s2,sr,B.zOb]
  have z:∀p q,Ext st ⟨(q1.nx,p)::Z7 q1.h (st.nx+1+1) q,q1.nx+1⟩:=fun p q=>(Ext.Qw (st:=st) (h:=q1.h) (m:=q1.nx) (n:=st.nx+1+1) y1 (by omega)).Zf (Nat.lt_succ_self _)
  exact⟨(z _ _).Zb,.inl ⟨h1,rfl⟩⟩
 have y2:=y1.Zf (o:= .cells 451 true p.1.A) (Nat.lt_succ_self q1.nx)
 simp (disch:=omega) [go_sem,k1,d0,d00,e1,e2,e3,h1,hlen,ht,B.zOb]
 refine(Zpg H.La y2.wf (r2.ext y2 hwf) hs o 0 (by omega) (by omega) t htl).mono ?_
 rintro w q2 ⟨x2,⟨h2,rfl⟩ | ⟨h2,u',rfl,hu⟩⟩
 ·rw[show A2 ops hp n t o=(Zme hp o 0 t,[],[])by unfold A2;rw[hpe,if_neg (by simp[h1]),if_pos h2]]
  have k2:=x2.Zd
  have y3:=y2.trans x2
  have n2:=x2.nx
  simp only at k2 n2
  simp (disch:=omega) [go_sem,k2,k1,d0,d00,e1,e2,e3,h2,hlen,ht,z1,Zk,s0,s1,s2,sr]
  exact⟨(Ext.Qw (st:=st) (h:=q2.h) (m:=q2.nx) (n:=st.nx+1+1) y3 (by omega)).Zb,.inl ⟨h2,rfl⟩⟩
 have k2:=x2.Zd
 have y3:=y2.trans x2
 have n2:=x2.nx
 simp only at k2 n2
 simp (disch:=omega) [go_sem,k2,k1,d0,d00,e1,e2,e3,hlen,ht]
 refine(V3 H.Zx y3.wf hR (r0.ext y3 hwf) (r2.ext y3 hwf) hb n hn p.1).mono ?_
 rintro w q3 ⟨x3,ha⟩
 have k3:=x3.Zd
 have y4:=y3.trans x3
 have n3:=x3.nx
 have f1:¬q3.nx=st.nx:=by omega
 have f2:¬q3.nx=st.nx+1:=by omega
 have f3:¬q3.nx=st.nx+1+1:=by omega
 have f4:¬q3.nx=q1.nx:=by omega
 have hu3:=hu.ext x3 y3.wf
 have su:=hu.sc
 have g:Zh q3.h (st.nx+1+1)=some (.cells 457 true B.Qi):=by
  rw[k3 _ (by omega),k2 _ (by omega)]
  simp only[Zg]
  rw[if_neg (by omega),k1 _ (by omega)]
  simp[Zg]
 have z:∀p q,Ext st ⟨(q3.nx,p)::Z7 q3.h (st.nx+1+1) q,q3.nx+1⟩:=fun p q=>(Ext.Qw (st:=st) (h:=q3.h) (m:=q3.nx) (n:=st.nx+1+1) y4 (by omega)).Zf (Nat.lt_succ_self _)
 have zz:∀p q,Ext ⟨Z7 q3.h (st.nx+1+1) q,q3.nx⟩ ⟨(q3.nx,p)::Z7 q3.h (st.nx+1+1) q,q3.nx+1⟩:=fun p q=>(Ext.refl (Ext.Qw (st:=st) (h:=q3.h) (m:=q3.nx) (n:=st.nx+1+1) y4 (by omega)).wf).Zf (Nat.lt_succ_self _)
 have zw:∀q,St.Wf ⟨Z7 q3.h (st.nx+1+1) q,q3.nx⟩:=fun q=>(Ext.Qw (st:=st) (h:=q3.h) (m:=q3.nx) (n:=st.nx+1+1) y4 (by omega)).wf
 rcases ha with ⟨h3,rfl⟩ | ⟨h3,v',rfl,hv'⟩
 ·rw[show A2 ops hp n t o=(Zgi ops n,[],[])by unfold A2;rw[hpe,if_neg (by simp[h1]),if_neg (by simp[h2]),if_pos h3]]
  simp (disch:=omega) [go_sem,k3,k2,k1,d0,d00,e1,e2,e3,f1,f2,f3,f4,h3,hlen,ht,z1,Zk,s0,s1,s2,sr]
  exact⟨(z _ _).Zb,.inl ⟨h3,rfl⟩⟩
 ·rw[show A2 ops hp n t o=(0,ops.take (ops.length - n)++[p.1],Zyv hp o 0 t)by unfold A2;rw[hpe,if_neg (by simp[h1]),if_neg (by simp[h2]),if_neg (by simp[h3])]]
  have sv:=RdS.sc hv'
  have z2:Qd B.Qi 0 (v'::v1::u'::r)=v'::v1::u'::r:=Z8 (by rw[hR.Yn,Zk])
  simp (disch:=omega) [go_sem,k3,k2,k1,d0,d00,e1,e2,e3,f1,f2,f3,f4,hlen,ht,z1,z2,Zk,s0,s1,s2,sr,sv,su,Zgk su]
  exact⟨(z _ _).Zb,Kn.Zb (.inr ⟨rfl,v',u',rfl,(hv'.Z7 g rfl).ext (st:=⟨_,q3.nx⟩) (zz _ _) (zw _),(hu3.Z7 g rfl).ext (st:=⟨_,q3.nx⟩) (zz _ _) (zw _)⟩) (z _ _).wf⟩
end Go.Ev
