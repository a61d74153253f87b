/- Drafts of states told: parts of cells. -/
import Derived.Test.YtdlhjfmakdbmkaaGreatDoorP08
import Derived.Test.YtdlhjfmakdbmkaaGreatDoorP05
import Derived.Test.YtdlhjfmakdbmkaaGreatDoorP03
import Derived.KernelRfl
set_option linter.unusedSimpArgs false
set_option linter.unusedVariables false
set_option linter.unusedSectionVars false
namespace Go.Ev
open Go
variable {T : Tab} {st st' : St}
structure Wd where
 K:Nat
 A:Nat
 B:Nat
 N:Int
 S:List UInt8
 deriving DecidableEq,Inhabited
def Wd.ok (w:Wd):Prop:=w.K<256∧w.A<256∧w.B<256∧-2147483648≤w.N∧w.N≤2147483647∧w.S.length<9223372036854775808
def Wd.c (w:Wd):List AV:=[.int .u8 (w.K:Int),.int .u8 (w.A:Int),.int .u8 (w.B:Int),.int .i32 w.N,.str w.S]
def ceL (c:Ce):Nat:=c.b.length+c.it.length
def Zrp (o:Ob) (len B:Nat):Ob:=if B % 3=2 then {o with o:=((B % (len+1):Nat):Int),l:=((B / 3 % (len - B % (len+1)+1):Nat):Int)}else {o with l:=(len:Int)}
def E2 (hp:List Ce) (kind cell:Int) (w:Wd):Ob:=
 if Ze0 hp cell w.A<0 then Jc (w.A:Int)
 else if cell=3∨cell=4 then⟨kind,decide (w.N.tmod 5=3),0,[],Ze0 hp cell w.A,0,0⟩
 else Zrp ⟨kind,decide (w.N.tmod 5=3),0,[],Ze0 hp cell w.A,0,0⟩ (ceL (hp.getD (Ze0 hp cell w.A).toNat default)) w.B
theorem Zha (hp:List Ce) (k:Int) (n:Nat):Ze0 hp k n= -1∨∃(i:Nat) (c:Ce),Ze0 hp k n=(i:Int)∧hp[i]? =some c∧c.k=k:=by
 unfold Ze0
 by_cases h:idxs 0 hp k=[]
 ·rw[if_pos h];exact .inl rfl
 ·rw[if_neg h]
  have hpos:0<(idxs 0 hp k).length:=List.length_pos_iff.2 h
  have hmod:=Nat.mod_lt n hpos
  have hy:(idxs 0 hp k)[n % (idxs 0 hp k).length]? =some ((idxs 0 hp k).getD (n % (idxs 0 hp k).length) 0):=by
   rw[List.getD_eq_getElem?_getD,List.getElem?_eq_getElem hmod];rfl
  obtain⟨j,c,h1,h2,h3⟩:=Zoe 0 hp k _ (List.mem_of_getElem? hy)
  rw[Nat.zero_add]at h3
  exact .inr ⟨j,c,h3,h1,h2⟩
set_option maxHeartbeats 2000000 in
theorem Zty (H:B.Gc T) (hwf:st.Wf) {v0:AV} {hp:List Ce} (hd:HpR st.h v0 hp) (hl:hp.length<1000000) (hb:∀c∈hp,ceL c<1000000000) (kind cell:Int) {w:Wd} (hw:w.ok):
  Z9 T st (.fn 356 [] []) [v0,.int .i64 kind,.int .i64 cell,.agg w.c] (E2 hp kind cell w).v:=by
 refine Zm H.e H.f rfl ?_
 obtain⟨hK,hA,hB,hN0,hN1,hS⟩:=hw
 have x0:=((Ext.refl hwf).Zf (o:= .cells 465 true w.c) (Nat.lt_succ_self st.nx)).Zf (o:= .cells 451 true B.zOb) (Nat.lt_succ_self (st.nx+1))
 have d0:¬st.nx+1=st.nx:=by omega
 have wA:IntKind.i64.wrap (w.A:Int)=(w.A:Int):=Zo (by omega) (by omega)
 simp (disch:=omega) [B.U7,go_sem,hd.sc,Wd.c,B.zOb,d0,wA]
 refine(Ztz H.U8 x0.wf (hd.ext x0 hwf) hl cell w.A (by omega)).use fun s1 x1=> ?_
 have k1:=x1.Zd
 have y1:=x0.trans x1
 have n1:=x1.nx
 simp only[Wd.c]at k1 n1
 unfold E2
 rcases Zha hp cell w.A with hm | ⟨i,c,hi,hc,hck⟩
 ·rw[hm,if_pos (by decide)]
  simp (disch:=omega) [go_sem,k1,d0,wA,B.zOb,Jc]
  exact Ext.Qw (st:=st) (h:=s1.h) (m:=s1.nx) (n:=st.nx+1) y1 (by omega)
 rw[hi,if_neg (by omega)]
 have hi0:¬(i:Int)<0:=by omega
 have hil:i<hp.length:=(List.getElem?_eq_some_iff.1 hc).1
 have e1:¬s1.nx=st.nx:=by omega
 have e2:¬s1.nx=st.nx+1:=by omega
 have y2:∀o,Ext st ⟨(s1.nx,o)::s1.h,s1.nx+1⟩:=fun o=>y1.Zf (Nat.lt_succ_self _)
 have y4:∀o o',Ext st ⟨(s1.nx,o)::Z7 s1.h (st.nx+1) o',s1.nx+1⟩:=fun o o'=>(Ext.Qw (st:=st) y1 (by omega)).Zf (Nat.lt_succ_self _)
 have y3:∀o o' k,Ext st ⟨Z7 ((s1.nx,o)::s1.h) (st.nx+1) o',s1.nx+1+k⟩:=fun o o' k=>Ext.Qw (st:=st) ((y2 o).upN (by simp)) (by omega)
 by_cases hcell:cell=3∨cell=4
 ·rw[if_pos hcell]
  rcases hcell with h3 | h4
  ·simp (disch:=omega) [go_sem,k1,d0,wA,B.zOb,hi0,e1,e2,h3]
   exact y4 _ _
  ·have h43:¬cell=3:=by omega
   simp (disch:=omega) [go_sem,k1,d0,wA,B.zOb,hi0,e1,e2,h43,h4]
   exact y4 _ _
 ·rw[if_neg hcell]
  have hcell':¬cell=3∧¬cell=4:=⟨fun h=>hcell (.inl h),fun h=>hcell (.inr h)⟩
  obtain⟨h3,h4⟩:=hcell'
  obtain⟨n',off,ob,hat⟩:=(hd.ext y1 hwf).acc y1.wf
  obtain⟨a1,a2,a3,X,a4,a5⟩:=hat i c (by omega) (by simpa using hc)
  simp only[Int.toNat_natCast]at a3 a4
  obtain⟨p,q,r,rfl,hp1,hq1,hr1⟩:=a5.row
  have a6:=Jg a4 (i:=1) (by omega)
  have a7:=Jg a4 (i:=2) (by omega)
  simp only[List.getElem?_cons_zero,List.getElem?_cons_succ]at a6 a7
  have hlp:=hp1.Y0
  have hlen:=hb c (List.mem_of_getElem? hc)
  have hgd:hp.getD (i:Int).toNat default=c:=by rw[Int.toNat_natCast,List.getD_eq_getElem?_getD,hc];rfl
  rw[hgd]
  unfold ceL at hlen
  have d1:¬s1.nx=n':=by omega
  have wl:IntKind.i64.wrap ((c.b.length:Int)+(c.it.length:Int))=((c.b.length+c.it.length:Nat):Int):=by rw[Zo (by omega) (by omega)];omega
  obtain⟨L,hL⟩:∃L,c.b.length+c.it.length=L:=⟨_,rfl⟩
  rw[show ceL c=L from hL]
  rw[hL]at wl hlen
  have wB:((w.B:Int)).tmod 3=((w.B % 3:Nat):Int):=by rw[Int.tmod_eq_emod_of_nonneg (by omega)];rfl
  obtain⟨J,hJ⟩:∃J,w.B % (L+1)=J:=⟨_,rfl⟩
  have hJl:J≤L:=by have:=Nat.mod_lt w.B (show 0<L+1 by omega);omega
  obtain⟨I,hI⟩:∃I,w.B / 3 % (L - J+1)=I:=⟨_,rfl⟩
  have hIl:I≤L - J:=by have:=Nat.mod_lt (w.B / 3) (show 0<L - J+1 by omega);omega
  have t1:((w.B:Int)).tmod ((L:Int)+1)=(J:Int):=by rw[Int.tmod_eq_emod_of_nonneg (by omega),←hJ];push_cast;rfl
  have t2:(((w.B:Int)).tdiv 3).tmod ((L:Int) - (J:Int)+1)=(I:Int):=by
   rw[Int.tdiv_eq_ediv_of_nonneg (by omega),Int.tmod_eq_emod_of_nonneg (by omega),←hI,show (L:Int) - (J:Int)+1=((L - J+1:Nat):Int)by omega];push_cast;rfl
  have z1:¬(L:Int)+1=0:=by omega
  have z2:¬(L:Int) - (J:Int)+1=0:=by omega
  have w1:IntKind.i64.wrap (J:Int)=(J:Int):=Zo (by omega) (by omega)
  have w2:IntKind.i64.wrap (I:Int)=(I:Int):=Zo (by omega) (by omega)
  have y5:∀o o' k,Ext st ⟨(s1.nx,o)::Z7 s1.h (st.nx+1) o',s1.nx+1+k⟩:=fun o o' k=>((Ext.Qw (st:=st) y1 (by omega)).Zf (by omega))
  unfold Zrp
  rw[hJ,hI]
  by_cases hb3:w.B % 3=2
  ·have hb3':(w.B:Int) % 3=2:=by omega
   rw[if_pos hb3]
   simp (disch:=omega) [go_sem,↓Qy,↓Zp,k1,d0,wA,B.zOb,hi0,e1,e2,h3,h4,a2,a3,a6,a7,d1,hlp,wl,wB,hb3',t1,t2,z1,z2,w1,w2]
   exact⟨by rw[Int.tdiv_eq_ediv_of_nonneg (by omega)]at t2;exact t2,y5 _ _ _⟩
  ·have hb3':¬(w.B:Int) % 3=2:=by omega
   rw[if_neg hb3]
   simp (disch:=omega) [go_sem,↓Qy,↓Zp,k1,d0,wA,B.zOb,hi0,e1,e2,h3,h4,a2,a3,a6,a7,d1,hlp,wl,wB,hb3']
   exact y5 _ _ _
end Go.Ev

/- Drafts of states told: objects. -/
namespace Go.Ev
open Go
variable {T : Tab} {st st' : St}
def P7:List (List UInt8):=[[97],[98],[97,100,100],[120],[102,111,111],[],[112,111,112],[70,111,110,116]]
def Zau:List AV:=P7.map AV.str
def Wrd (st:St):Prop:=Zh st.h 8=some (.Wz 8 Zau)
theorem Wrd.ext (a:Wrd st) (x:Ext st st') (hw:st.Wf):Wrd st':=by
 unfold Wrd at*
 rw[x.Zd 8 (hw.lt _ _ a),a]
def G8 (hp:List Ce) (w:Wd):Ob:=
 if w.K % 16=0 then obZ
 else if w.K % 16=1 then⟨1,false,0,[],0,0,0⟩
 else if w.K % 16=2 then⟨2,false,((w.A % 2:Nat):Int),[],0,0,0⟩
 else if w.K % 16=3∨w.K % 16=4 then Jc (w.N.tmod 10)
 else if w.K % 16=5 then Jc w.N
 else if w.K % 16=6 then Uc (w.N.tmod 1048576)
 else if w.K % 16=7 then Uc w.N
 else if w.K % 16=8∨w.K % 16=9 then⟨5,decide (w.K % 16=9),0,P7.getD (w.A % 8) [],0,0,0⟩
 else if w.K % 16=10 then E2 hp 6 1 w
 else if w.K % 16=11 then E2 hp 7 2 w
 else if w.K % 16=12 then E2 hp 8 2 w
 else if w.K % 16=13 then E2 hp 9 3 w
 else if w.K % 16=14 then⟨10,true,0,[97,100,100],0,0,0⟩
 else E2 hp 11 4 w
set_option maxHeartbeats 8000000 in
theorem Eb (H:B.Ux T) (hwf:st.Wf) (hwd:Wrd st) {v0:AV} {hp:List Ce} (hd:HpR st.h v0 hp) (hl:hp.length<1000000) (hb:∀c∈hp,ceL c<1000000000) {w:Wd} (hw:w.ok):
  Z9 T st (.fn 310 [] []) [.agg w.c,v0] (G8 hp w).v:=by
 refine Zm H.e H.f rfl ?_
 obtain⟨hK,hA,hB,hN0,hN1,hS⟩:=id hw
 have x0:=((Ext.refl hwf).Zf (o:= .cells 465 true w.c) (Nat.lt_succ_self st.nx)).Zf (o:= .cells 451 true B.zOb) (Nat.lt_succ_self (st.nx+1))
 have d0:¬st.nx+1=st.nx:=by omega
 have h8:(8:Nat)<st.nx:=hwf.lt _ _ hwd
 have d8:¬st.nx=8:=by omega
 have d8':¬st.nx+1=8:=by omega
 have wN:IntKind.i64.wrap w.N=w.N:=Zo (by omega) (by omega)
 have key:∀kind cell:Int,∀K:AV→St→Prop,(∀s,Ext ⟨(st.nx+1,.cells 451 true B.zOb)::(st.nx,.cells 465 true w.c)::st.h,st.nx+1+1⟩ s→K (E2 hp kind cell w).v s)→Qt (call T (.fn 356 [] []) [v0,.int .i64 kind,.int .i64 cell,.agg w.c] ⟨(st.nx+1,.cells 451 true B.zOb)::(st.nx,.cells 465 true w.c)::st.h,st.nx+1+1⟩) K:=
  fun kind cell K hK=>(Zty H.U7 x0.wf (hd.ext x0 hwf) hl hb kind cell hw).use fun s x=>hK s x
 obtain⟨k,hk⟩:∃k,w.K % 16=k:=⟨_,rfl⟩
 have hkl:k<16:=by omega
 have tk:((w.K:Int)).tmod 16=(k:Int):=by rw[Int.tmod_eq_emod_of_nonneg (by omega),←hk];rfl
 have tk':(w.K:Int) % 16=(k:Int):=by omega
 have tA2:((w.A:Int)).tmod 2=(w.A:Int) % 2:=Int.tmod_eq_emod_of_nonneg (by omega)
 have wA2:IntKind.i64.wrap ((w.A:Int) % 2)=(w.A:Int) % 2:=Zo (by omega) (by omega)
 have wA:IntKind.i64.wrap (w.A:Int)=(w.A:Int):=Zo (by omega) (by omega)
 obtain⟨j,hj⟩:∃j,w.A % 8=j:=⟨_,rfl⟩
 have hjl:j<8:=by omega
 have tA8:((w.A:Int)).tmod 8=(j:Int):=by rw[Int.tmod_eq_emod_of_nonneg (by omega),←hj];rfl
 have wj:Zau[j]? =some (.str (P7.getD j [])):=by
  have:j=0∨j=1∨j=2∨j=3∨j=4∨j=5∨j=6∨j=7:=by omega
  rcases this with rfl | rfl | rfl | rfl | rfl | rfl | rfl | rfl <;> rfl
 have d7:¬st.nx=7:=by omega
 have hwd':Zh st.h 8=some (.Wz 8 Zau):=hwd
 have hjl2:(j:Int)<8:=by omega
 unfold G8
 rw[hk,hj]
 have fin:∀o',Ext st ⟨(st.nx+1,o')::(st.nx,.cells 465 true w.c)::st.h,st.nx+1+1⟩:=fun o'=>((Ext.refl hwf).Zf (Nat.lt_succ_self _)).Zf (Nat.lt_succ_self _)
 have:k=0∨k=1∨k=2∨k=3∨k=4∨k=5∨k=6∨k=7∨k=8∨k=9∨k=10∨k=11∨k=12∨k=13∨k=14∨k=15:=by omega
 simp only[Wd.c]at fin key
 rcases this with rfl | rfl | rfl | rfl | rfl | rfl | rfl | rfl | rfl | rfl | rfl | rfl | rfl | rfl | rfl | rfl
 ·simp (disch:=omega) [B.Zr,go_sem,hd.sc,Wd.c,B.zOb,d0,tk,tk',wN,obZ]
  exact fin _
 ·simp (disch:=omega) [B.Zr,go_sem,hd.sc,Wd.c,B.zOb,d0,tk,tk',wN]
  exact fin _
 ·simp (disch:=omega) [B.Zr,go_sem,hd.sc,Wd.c,B.zOb,d0,tk,tk',wN,tA2,wA2]
  exact fin _
 ·simp (disch:=omega) [B.Zr,go_sem,hd.sc,Wd.c,B.zOb,d0,tk,tk',wN,Jc]
  exact fin _
 ·simp (disch:=omega) [B.Zr,go_sem,hd.sc,Wd.c,B.zOb,d0,tk,tk',wN,Jc]
  exact fin _
 ·simp (disch:=omega) [B.Zr,go_sem,hd.sc,Wd.c,B.zOb,d0,tk,tk',wN,Jc]
  exact fin _
 ·simp (disch:=omega) [B.Zr,go_sem,hd.sc,Wd.c,B.zOb,d0,tk,tk',wN,Uc]
  exact fin _
 ·simp (disch:=omega) [B.Zr,go_sem,hd.sc,Wd.c,B.zOb,d0,tk,tk',wN,Uc]
  exact fin _
 ·simp (disch:=omega) [B.Zr,go_sem,hd.sc,Wd.c,B.zOb,d0,d7,d8,d8',hwd',tk,tk',wN,wA,tA8,hjl,hjl2,wj]
  exact((Ext.refl hwf).Zf (Nat.lt_succ_self _)).Zf (by omega)
 ·simp (disch:=omega) [B.Zr,go_sem,hd.sc,Wd.c,B.zOb,d0,d7,d8,d8',hwd',tk,tk',wN,wA,tA8,hjl,hjl2,wj]
  exact((Ext.refl hwf).Zf (Nat.lt_succ_self _)).Zf (by omega)
 ·simp (disch:=omega) [B.Zr,go_sem,hd.sc,Wd.c,B.zOb,d0,tk,tk',wN]
  refine key _ _ _ fun s1 x1=> ?_
  have k1:=x1.Zd
  have n1:=x1.nx
  simp only at k1 n1
  simp (disch:=omega) [go_sem,k1,B.zOb]
  exact Ext.Qw (st:=st) (h:=s1.h) (m:=s1.nx) (n:=st.nx+1) (x0.trans x1) (by omega)
 ·simp (disch:=omega) [B.Zr,go_sem,hd.sc,Wd.c,B.zOb,d0,tk,tk',wN]
  refine key _ _ _ fun s1 x1=> ?_
  have k1:=x1.Zd
  have n1:=x1.nx
  simp only at k1 n1
  simp (disch:=omega) [go_sem,k1,B.zOb]
  exact Ext.Qw (st:=st) (h:=s1.h) (m:=s1.nx) (n:=st.nx+1) (x0.trans x1) (by omega)
 ·simp (disch:=omega) [B.Zr,go_sem,hd.sc,Wd.c,B.zOb,d0,tk,tk',wN]
  refine key _ _ _ fun s1 x1=> ?_
  have k1:=x1.Zd
  have n1:=x1.nx
  simp only at k1 n1
  simp (disch:=omega) [go_sem,k1,B.zOb]
  exact Ext.Qw (st:=st) (h:=s1.h) (m:=s1.nx) (n:=st.nx+1) (x0.trans x1) (by omega)
 ·simp (disch:=omega) [B.Zr,go_sem,hd.sc,Wd.c,B.zOb,d0,tk,tk',wN]
  refine key _ _ _ fun s1 x1=> ?_
  have k1:=x1.Zd
  have n1:=x1.nx
  simp only at k1 n1
  simp (disch:=omega) [go_sem,k1,B.zOb]
  exact Ext.Qw (st:=st) (h:=s1.h) (m:=s1.nx) (n:=st.nx+1) (x0.trans x1) (by omega)
 ·simp (disch:=omega) [B.Zr,go_sem,hd.sc,Wd.c,B.zOb,d0,tk,tk',wN]
  exact fin _
 ·simp (disch:=omega) [B.Zr,go_sem,hd.sc,Wd.c,B.zOb,d0,tk,tk',wN]
  refine key _ _ _ fun s1 x1=> ?_
  have k1:=x1.Zd
  have n1:=x1.nx
  simp only at k1 n1
  simp (disch:=omega) [go_sem,k1,B.zOb]
  exact Ext.Qw (st:=st) (h:=s1.h) (m:=s1.nx) (n:=st.nx+1) (x0.trans x1) (by omega)
end Go.Ev

/- Drafts of states told: cells. -/
namespace Go.Ev
open Go
variable {T : Tab} {st st' : St}
def wdI (w:Wd) (i:Nat):Wd:=⟨(w.B+5*i) % 256,(w.A+i) % 256,(w.B*(i+1)) % 256,w.N.tdiv ((i:Int)+1),[]⟩
def wdJ (w:Wd) (i:Nat):Wd:=⟨(w.B+3*i) % 256,(w.A+i) % 256,w.B,w.N,[]⟩
theorem Zsb {n:Int} {i:Nat} (h0: -2147483648≤n) (h1:n≤2147483647): -2147483648≤n.tdiv ((i:Int)+1)∧n.tdiv ((i:Int)+1)≤2147483647:=by
 by_cases h:0≤n
 ·rw[Int.tdiv_eq_ediv_of_nonneg h]
  have a1:=Int.ediv_nonneg h (show (0:Int)≤(i:Int)+1 by omega)
  have a2:=Int.ediv_le_self ((i:Int)+1) h
  omega
 ·have e:n= -(-n):=by omega
  rw[e,Int.neg_tdiv,Int.tdiv_eq_ediv_of_nonneg (by omega)]
  have a1:=Int.ediv_nonneg (show 0≤-n by omega) (show (0:Int)≤(i:Int)+1 by omega)
  have a2:=Int.ediv_le_self ((i:Int)+1) (show 0≤-n by omega)
  omega
theorem Zaew {w:Wd} (h:w.ok) (i:Nat):(wdI w i).ok:=by
 obtain⟨h1,h2,h3,h4,h5,h6⟩:=h
 have:=Zsb (i:=i) h4 h5
 exact⟨Nat.mod_lt _ (by omega),Nat.mod_lt _ (by omega),Nat.mod_lt _ (by omega),this.1,this.2,by simp[wdI]⟩
theorem Zaex {w:Wd} (h:w.ok) (i:Nat):(wdJ w i).ok:=by
 obtain⟨h1,h2,h3,h4,h5,h6⟩:=h
 exact⟨Nat.mod_lt _ (by omega),Nat.mod_lt _ (by omega),h3,h4,h5,by simp[wdJ]⟩
def itW (hp:List Ce) (w:Wd) (n:Nat):List Ob:=(List.range n).map fun i=>G8 hp (wdI w i)
def keW (n:Nat):List Ob:=(List.range n).map fun i=>⟨5,false,0,P7.getD i [],0,0,0⟩
def vaW (hp:List Ce) (w:Wd) (n:Nat):List Ob:=(List.range n).map fun i=>G8 hp (wdJ w i)
theorem Zyf (hp:List Ce) (w:Wd) (n:Nat):itW hp w (n+1)=itW hp w n++[G8 hp (wdI w n)]:=by simp[itW,List.range_succ]
theorem Zyh (n:Nat):keW (n+1)=keW n++[⟨5,false,0,P7.getD n [],0,0,0⟩]:=by simp[keW,List.range_succ]
theorem Zzj (hp:List Ce) (w:Wd) (n:Nat):vaW hp w (n+1)=vaW hp w n++[G8 hp (wdJ w n)]:=by simp[vaW,List.range_succ]
def Il (hp:List Ce) (w:Wd):Ce:=
 if w.K % 5=0∨w.K % 5=1 then⟨1,w.S.take 40,[],[],[],0,0⟩
 else if w.K % 5=2 then⟨2,[],itW hp w (w.A % 6),[],[],0,0⟩
 else if w.K % 5=3 then⟨3,[],[],keW (min (w.B % 4) (w.A % 6)),vaW hp w (min (w.B % 4) (w.A % 6)),((w.A % 6:Nat):Int),0⟩
 else⟨4,w.S.take 40,[],[],[],((w.B % 2:Nat):Int),((w.A % ((w.S.take 40).length+1):Nat):Int)⟩
theorem Zo7 (H:B.Lz T) (hwf:st.Wf) (s:List UInt8):Z9 T st (.fn 398 [] []) [.str s] (Ob.v ⟨5,false,0,s,0,0,0⟩):=by
 refine Zm H.e H.f rfl ?_
 simp (disch:=omega) [B.Kh,go_sem,B.zOb]
 exact((Ext.refl hwf).Zf (Nat.lt_succ_self st.nx))
theorem Znr (H:B.Ly T) (hwf:st.Wf) (n:Int):Z9 T st (.fn 397 [] []) [.int .i64 n] (.agg [.int .i64 3,.str [],.Zc,.Zc,.Zc,.int .i64 n,.int .i64 0]):=by
 refine Zm H.e H.f rfl ?_
 simp (disch:=omega) [B.Kg,go_sem,B.zCe]
 exact((Ext.refl hwf).Zf (Nat.lt_succ_self st.nx))
end Go.Ev

/- Drafts of states told: the items of an array. -/
namespace Go.Ev
open Go
variable {T : Tab} {st st' : St}
theorem J0.Zva {ty es b:Nat} {st0 s1:St} (hF:st0.nx≤s1.nx) (hw:s1.Wf) {v x:AV} {k:Nat} {cs new:List AV} (g:J0 ty es st0 s1 v k cs) (hx:Rd s1.h x es 1 new) (hl:k<1000000000) (hb:b<10000) (hsc:new.all AV.sc=true):
  Qt (Vf ty es b s1 v x) fun v' s=>J0 ty es st0 s v' (k+1) (cs++new)∧Frm v.nms s1 s∧∀n∈v'.nms,n∈v.nms∨s1.nx≤n:=by
 obtain⟨a1,a2,a3⟩:=g
 have hap:=Sl.append (x:=x) (j:=1) (new:=new) (b:=b) (Frm.refl hw v.nms) (fun n h=> .inl h) a1 hx hsc (by
   have:(k+1)*b≤1000000000*10000:=Nat.mul_le_mul (by omega) (by omega)
   omega) (by omega) (.inl (by omega))
 refine(hap.Zxm (fun _ _ h=>C4 h a3)).mono ?_
 rintro v2 s2 ⟨⟨k1,k2,k3,_⟩,hnk2⟩
 refine⟨⟨k1,fun n hn=> ?_,hnk2⟩,k2,k3⟩
 rcases k3 n hn with h | h
 ·exact a2 n h
 ·exact .inr (by omega)
theorem J0.form {ty es:Nat} {st0 s:St} {v:AV} {k:Nat} {cs:List AV} (a:J0 ty es st0 s v k cs):(v= .Zc∧k=0)∨∃n,v= .slice n 0 k .full∧Zh s.h n=some (.buf ty es cs):=by
 obtain⟨⟨m,hsl⟩,b6,b7⟩:=a
 rcases hsl with ⟨k1,k2,k3⟩ | ⟨k1,k2,k3⟩ | ⟨ty',k1,k2,k3⟩
 ·exact .inl ⟨k1,k3⟩
 ·exact .inr ⟨m,k1,k2⟩
 ·exact absurd k1 (b7 _ _ _ _)
theorem J0.apart {ty es:Nat} {st0 s:St} {v:AV} {k b:Nat} {cs cs':List AV} {t:Nat} {l:Bool} (a:J0 ty es st0 s v k cs) (h:Zh s.h b=some (.cells t l cs')):b∉v.nms:=by
 rcases a.form with ⟨rfl,_⟩ | ⟨n,rfl,hn⟩
 ·simp[AV.nms]
 ·simp only[AV.nms,List.mem_singleton]
  rintro rfl
  rw[h]at hn
  cases hn
def Zfe (v:AV):List AV:=[.int .i64 2,.str [],v,.Zc,.Zc,.int .i64 0,.int .i64 0]
theorem w8 {n:Int} (h0:0≤n):IntKind.u8.wrap n=n % 256:=by
 simp[IntKind.wrap,IntKind.signed,IntKind.bits]
set_option maxHeartbeats 4000000 in
theorem Zz4 (H:B.Ye T) {st0:St} (hw0:st0.Wf) (hwd:Wrd st0) {v0:AV} {hp:List Ce} (hd0:HpR st0.h v0 hp) (hl:hp.length<1000000) (hb:∀c∈hp,ceL c<1000000000) {w:Wd} (hw:w.ok) {b2 b4 b6:Nat} {o4:Qb} (g2:st0.nx≤b2) (g4:st0.nx≤b4) (g6:st0.nx≤b6) (n26:¬b2=b6) (n46:¬b4=b6) (hn4:∀a b c,some o4≠some (Qb.buf a b c)):
  ∀(m i:Nat) (v:AV) (e:Env) (s1:St),i+m=w.A % 6→Ext st0 s1→J0 451 7 st0 s1 v i (Ku (itW hp w i))→Zh s1.h b2=some (.cells 465 true w.c)→Zh s1.h b4=some o4→Zh s1.h b6=some (.cells 486 true (Zfe v))→Zl e 1=v0→Zl e 2= .ptr b2 0→Zl e 4= .ptr b4 0→Zl e 6= .ptr b6 0→Zl e 7= .int .i64 (i:Int)→
  Res (run T (.loop B.Vr) e s1) fun x e' s'=>x= .exit 1∧Ext st0 s'∧Zl e' 4= .ptr b4 0∧Zl e' 6= .ptr b6 0∧Zh s'.h b4=some o4∧∃v',Zh s'.h b6=some (.cells 486 true (Zfe v'))∧J0 451 7 st0 s' v' (w.A % 6) (Ku (itW hp w (w.A % 6))):=by
 obtain⟨hK,hA,hB,hN0,hN1,hS⟩:=id hw
 have tA:((w.A:Int)).tmod 6=((w.A % 6:Nat):Int):=by rw[Int.tmod_eq_emod_of_nonneg (by omega)];rfl
 obtain⟨M,hM⟩:∃M,w.A % 6=M:=⟨_,rfl⟩
 rw[hM]at tA⊢
 have hMl:M<6:=by omega
 have wM:IntKind.i64.wrap (M:Int)=(M:Int):=Zo (by omega) (by omega)
 intro m
 induction m with
 | zero=>
   intro i v e s1 hi hx hg h2 h4 h6 e1 e2 e4 e6 e7
   have hil:i=M:=by omega
   subst hil
   rw[Zs]
   simp[B.Vr,go_sem,e1,e2,e4,e6,e7,h2,tA,wM,Wd.c]
   exact⟨hx,h4,v,h6,hg⟩
 | succ m ih=>
   intro i v e s1 hi hx hg h2 h4 h6 e1 e2 e4 e6 e7
   obtain⟨I,hI⟩:∃I:Int,(i:Int)=I:=⟨_,rfl⟩
   rw[hI]at e7
   have hil:I<M:=by omega
   have wi1:IntKind.i32.wrap (I+1)=I+1:=by simp[IntKind.wrap,IntKind.signed,IntKind.bits];omega
   have wt:IntKind.i32.wrap (w.N.tdiv (I+1))=w.N.tdiv (I+1):=by
    have:=Zsb (i:=i) hN0 hN1
    rw[hI]at this
    generalize w.N.tdiv (I+1)=q at this
    simp[IntKind.wrap,IntKind.signed,IntKind.bits]
    omega
   have wa:IntKind.u8.wrap ((w.A:Int)+IntKind.u8.wrap I)=(((wdI w i).A:Nat):Int):=by show _=(((w.A+i) % 256:Nat):Int);rw[w8 (n:=I) (by omega),w8 (by omega)];omega
   have wb:IntKind.u8.wrap ((w.B:Int)+IntKind.u8.wrap (5*I))=(((wdI w i).K:Nat):Int):=by show _=(((w.B+5*i) % 256:Nat):Int);rw[w8 (n:=5*I) (by omega),w8 (by omega)];omega
   have wc:IntKind.u8.wrap ((w.B:Int)*IntKind.u8.wrap (I+1))=(((wdI w i).B:Nat):Int):=by
    show _=(((w.B*(i+1)) % 256:Nat):Int)
    obtain⟨P,hP⟩:∃P,w.B*(i+1)=P:=⟨_,rfl⟩
    have hP2:(w.B:Int)*(I+1)=(P:Int):=by rw[←hP,←hI,Int.natCast_mul];rfl
    rw[hP,w8 (n:=I+1) (by omega),Int.emod_eq_of_lt (by omega) (by omega),hP2,w8 (by omega)]
    rfl
   have wd:w.N.tdiv (I+1)=(wdI w i).N:=by rw[←hI];rfl
   have z1:¬I+1=0:=by omega
   obtain⟨W,hW⟩:∃W,wdI w i=W:=⟨_,rfl⟩
   have hWok:W.ok:=by rw[←hW];exact Zaew hw i
   have hWS:W.S=[]:=by rw[←hW];rfl
   rw[hW]at wa wb wc wd
   have wt':IntKind.i32.wrap W.N=W.N:=by rw[←wd];exact wt
   have x1:Ext s1 ⟨(s1.nx,.cells 465 true W.c)::s1.h,s1.nx+26+10⟩:=(Ext.refl hx.wf).Zf (by omega)
   have lb2:=hx.wf.lt _ _ h2
   have lb4:=hx.wf.lt _ _ h4
   have lb6:=hx.wf.lt _ _ h6
   have d2:¬s1.nx=b2:=by have:=hx.wf.lt _ _ h2;omega
   have d4:¬s1.nx=b4:=by have:=hx.wf.lt _ _ h4;omega
   have d6:¬s1.nx=b6:=by have:=hx.wf.lt _ _ h6;omega
   rw[Zs]
   simp (disch:=omega) [B.Vr,go_sem,reI,wanted,e1,e2,e4,e6,e7,h2,h6,d2,d6,tA,wM,Wd.c,Zfe,hil,wi1,wt',wa,wb,wc,wd,z1]
   have hwc:W.c=[.int .u8 (W.K:Int),.int .u8 (W.A:Int),.int .u8 (W.B:Int),.int .i32 W.N,.str []]:=by rw[Wd.c,hWS]
   rw[hwc]at x1
   have y1:=hx.trans x1
   have i0:InS s1 (s1.nx+26+10) (s1.nx+26) ⟨(s1.nx,.cells 465 true [.int .u8 (W.K:Int),.int .u8 (W.A:Int),.int .u8 (W.B:Int),.int .i32 W.N,.str []])::s1.h,s1.nx+26+10⟩:=by
    refine⟨x1,Nat.le_refl _,fun n h1' h2'=> ?_⟩
    simp only[Zg]
    rw[if_neg (by omega)]
    cases hgn:Zh s1.h n with
    | none=>rfl
    | some o=>exact absurd (hx.wf.lt _ _ hgn) (by omega)
   have tw:=Eb H.Zr x1.wf (hwd.ext y1 hw0) (hd0.ext y1 hw0) hl hb hWok
   rw[hwc]at tw
   refine tw.use fun q1 xq=> ?_
   have kq:=xq.Zd
   have nq:=xq.nx
   simp only at kq nq
   have y2:=y1.trans xq
   simp (disch:=omega) [go_sem,reI,wanted,B.zOb,kq,d2,d4,d6,h6,Zfe,Cl]
   have i1:=i0.call xq
   have i2:=i1.new (s1.nx+26) (.cells 451 false (G8 hp W).A) (by omega) (Nat.le_refl _) (by omega)
   have nS:=i2.2.1
   simp only at nS
   refine((hg.ext i2.1 hx.wf).Zva (b:=64) (x:= .slice (s1.nx+26) 0 1 (.known 1)) (new:=(G8 hp W).A) (Nat.le_trans hx.nx i2.1.nx) i2.1.wf (.inr ⟨_,_,_,rfl,Lu (ty:=451) (l:=false) (by simp[Zg]) rfl⟩) (by omega) (by omega) rfl).mono ?_
   rintro v2 q2 ⟨o2,f2,r2⟩
   have yq:=(hx.trans i2.1).Ma f2 hg.ge
   have hSg:=hg.ext i2.1 hx.wf
   have h6S:Zh ((s1.nx+26,Qb.cells 451 false (G8 hp W).A)::q1.h) b6=some (.cells 486 true (Zfe v)):=by have:=i2.1.Zd b6 lb6;simp only at this;rw[this,h6]
   have h2S:Zh ((s1.nx+26,Qb.cells 451 false (G8 hp W).A)::q1.h) b2=some (.cells 465 true w.c):=by have:=i2.1.Zd b2 lb2;simp only at this;rw[this,h2]
   have h4S:Zh ((s1.nx+26,Qb.cells 451 false (G8 hp W).A)::q1.h) b4=some o4:=by have:=i2.1.Zd b4 lb4;simp only at this;rw[this,h4]
   have h6q:=f2.get i2.1.wf h6S (hg.apart h6)
   have h2q:=f2.get i2.1.wf h2S (hg.apart h2)
   have n4v:b4∉v.nms:=fun h=>by
    rcases hg.form with ⟨rfl,_⟩ | ⟨n,rfl,hn⟩
    ·cases h
    ·simp only[AV.nms,List.mem_singleton]at h
     subst h
     exact hn4 _ _ _ (by rw[←h4];exact hn)
   have h4q:=f2.get i2.1.wf h4S n4v
   have n6v:=o2.apart h6q
   obtain⟨mm,hv2,_⟩:∃n,v2= .slice n 0 (i+1) .full∧Zh q2.h n=some (.buf 451 7 (Ku (itW hp w i)++(G8 hp W).A)):=by
    rcases o2.form with ⟨_,h0⟩ | h
    ·omega
    ·exact h
   subst hv2
   simp only[Zfe]at h6q
   simp (disch:=omega) [go_sem,o2.sc,e1,e2,h6q]
   have f3:=Frm.set (o:= .cells 486 true (Zfe (.slice mm 0 (i+1) .full))) yq.wf h6q
   have y3:=yq.Ma f3 (fun n hn=>by simp only[List.mem_singleton]at hn;omega)
   have ek:IntKind.i64.wrap (I+1)=((i+1:Nat):Int):=by rw[Zo (by omega) (by omega)];omega
   refine ih (i+1) (.slice mm 0 (i+1) .full) _ _ (by omega) y3 ?_ ?_ ?_ ?_ (by simp[go_sem]) (by simp[go_sem]) (by simp[go_sem]) (by simp[go_sem]) (by simp[go_sem];omega)
   ·rw[Zyf,E1,hW]
    have:=o2.Ma f3 yq.wf (fun n hn hm=>n6v (by simp only[List.mem_singleton]at hm;subst hm;exact hn))
    simpa [Ku,Zfe] using this
   ·rw[Qm,if_neg (fun h=>n26 h.symm),h2q]
   ·rw[Qm,if_neg (fun h=>n46 h.symm),h4q]
   ·rw[Qm,if_pos rfl,h6q]
    rfl
end Go.Ev

/- Drafts of states told: the entries of a dictionary. -/
namespace Go.Ev
open Go
variable {T : Tab} {st st' : St}
def Bv (mx:Int) (k v:AV):List AV:=[.int .i64 3,.str [],.Zc,k,v,.int .i64 mx,.int .i64 0]
def keO (i:Nat):Ob:=⟨5,false,0,P7.getD i [],0,0,0⟩
theorem Zab4 {j:Nat} (h:j<8):Zau[j]? =some (.str (P7.getD j [])):=by
 have:j=0∨j=1∨j=2∨j=3∨j=4∨j=5∨j=6∨j=7:=by omega
 rcases this with rfl | rfl | rfl | rfl | rfl | rfl | rfl | rfl <;> rfl
set_option maxHeartbeats 4000000 in
theorem Zz5 (H:B.Ye T) {st0:St} (hw0:st0.Wf) (hwd:Wrd st0) {v0:AV} {hp:List Ce} (hd0:HpR st0.h v0 hp) (hl:hp.length<1000000) (hb:∀c∈hp,ceL c<1000000000) {w:Wd} (hw:w.ok) {b2 b4 b9:Nat} {o4:Qb} (g2:st0.nx≤b2) (g4:st0.nx≤b4) (g9:st0.nx≤b9) (n29:¬b2=b9) (n49:¬b4=b9) (hn4:∀a b c,some o4≠some (Qb.buf a b c)) {mx:Nat} (hmx:mx<6):
  ∀(m i:Nat) (k v:AV) (e:Env) (s1:St),i+m=min (w.B % 4) mx→Ext st0 s1→J0 451 7 st0 s1 k i (Ku (keW i))→J0 451 7 st0 s1 v i (Ku (vaW hp w i))→(∀n∈k.nms,n∉v.nms)→Zh s1.h b2=some (.cells 465 true w.c)→Zh s1.h b4=some o4→Zh s1.h b9=some (.cells 486 true (Bv mx k v))→Zl e 1=v0→Zl e 2= .ptr b2 0→Zl e 4= .ptr b4 0→Zl e 9= .ptr b9 0→Zl e 10= .int .i64 (i:Int)→
  Res (run T (.loop B.K2) e s1) fun x e' s'=>x= .exit 3∧Ext st0 s'∧Zl e' 4= .ptr b4 0∧Zl e' 9= .ptr b9 0∧Zh s'.h b4=some o4∧∃k' v',Zh s'.h b9=some (.cells 486 true (Bv mx k' v'))∧J0 451 7 st0 s' k' (min (w.B % 4) mx) (Ku (keW (min (w.B % 4) mx)))∧J0 451 7 st0 s' v' (min (w.B % 4) mx) (Ku (vaW hp w (min (w.B % 4) mx))):=by
 obtain⟨hK,hA,hB,hN0,hN1,hS⟩:=id hw
 have tB:((w.B:Int)).tmod 4=((w.B % 4:Nat):Int):=by rw[Int.tmod_eq_emod_of_nonneg (by omega)];rfl
 obtain⟨R,hR⟩:∃R,w.B % 4=R:=⟨_,rfl⟩
 rw[hR]at tB⊢
 have hRl:R<4:=by omega
 have wR:IntKind.i64.wrap (R:Int)=(R:Int):=Zo (by omega) (by omega)
 obtain⟨M,hM⟩:∃M,min R mx=M:=⟨_,rfl⟩
 rw[hM]
 intro m
 induction m with
 | zero=>
   intro i k v e s1 hi hx hg hg' hkv h2 h4 h9 e1 e2 e4 e9 e10
   have hil:i=M:=by omega
   subst hil
   rw[Zs]
   have h9':=h9
   simp only[Bv]at h9'
   by_cases hiR:(i:Int)<R
   ·have himx:¬(i:Int)<mx:=by omega
    simp[B.K2,go_sem,e1,e2,e4,e9,e10,h2,h9',tB,wR,Wd.c,hiR,himx]
    exact⟨hx,h4,k,v,rfl,hg,hg'⟩
   ·simp[B.K2,go_sem,e1,e2,e4,e9,e10,h2,h9',tB,wR,Wd.c,hiR]
    exact⟨hx,h4,k,v,rfl,hg,hg'⟩
 | succ m ih=>
   intro i k v e s1 hi hx hg hg' hkv h2 h4 h9 e1 e2 e4 e9 e10
   obtain⟨I,hI⟩:∃I:Int,(i:Int)=I:=⟨_,rfl⟩
   rw[hI]at e10
   have hiR:I<R:=by omega
   have himx:I<mx:=by omega
   have wa:IntKind.u8.wrap ((w.A:Int)+IntKind.u8.wrap I)=(((wdJ w i).A:Nat):Int):=by show _=(((w.A+i) % 256:Nat):Int);rw[w8 (n:=I) (by omega),w8 (by omega)];omega
   have wb:IntKind.u8.wrap ((w.B:Int)+IntKind.u8.wrap (3*I))=(((wdJ w i).K:Nat):Int):=by show _=(((w.B+3*i) % 256:Nat):Int);rw[w8 (n:=3*I) (by omega),w8 (by omega)];omega
   have wc:(w.B:Int)=(((wdJ w i).B:Nat):Int):=rfl
   have wd:w.N=(wdJ w i).N:=rfl
   obtain⟨W,hW⟩:∃W,wdJ w i=W:=⟨_,rfl⟩
   have hWok:W.ok:=by rw[←hW];exact Zaex hw i
   have hWS:W.S=[]:=by rw[←hW];rfl
   rw[hW]at wa wb wc wd
   have lb2:=hx.wf.lt _ _ h2
   have lb4:=hx.wf.lt _ _ h4
   have lb9:=hx.wf.lt _ _ h9
   have d2:¬s1.nx=b2:=by omega
   have d4:¬s1.nx=b4:=by omega
   have d9:¬s1.nx=b9:=by omega
   have h8:=(hwd.ext hx hw0)
   have l8:=hx.wf.lt _ _ h8
   have d8:¬s1.nx=8:=by omega
   have h8':Zh s1.h 8=some (.Wz 8 Zau):=h8
   have hw8:=Zab4 (j:=i) (by omega)
   have hI8:I<8:=by omega
   have hI0:0≤I:=by omega
   have hIn:I.toNat=i:=by omega
   have hwc:W.c=[.int .u8 (W.K:Int),.int .u8 (W.A:Int),.int .u8 (W.B:Int),.int .i32 W.N,.str []]:=by rw[Wd.c,hWS]
   have h9':=h9
   simp only[Bv]at h9'
   rw[Zs]
   simp (disch:=omega) [B.K2,go_sem,reI,wanted,e1,e2,e4,e9,e10,h2,h9',h8',d2,d4,d9,d8,tB,wR,Wd.c,hiR,himx,wa,wb,hI8,hI0,hIn,hw8]
   obtain⟨cW,hcW⟩:∃cW,cW=[AV.int .u8 (W.K:Int),.int .u8 (W.A:Int),.int .u8 (w.B:Int),.int .i32 w.N,.str []]:=⟨_,rfl⟩
   have hWc:W.c=cW:=by rw[hwc,hcW,←wd,wc]
   have x1:Ext s1 ⟨(s1.nx,.cells 465 true cW)::s1.h,s1.nx+1+11⟩:=(Ext.refl hx.wf).Zf (by omega)
   have i0:InS s1 (s1.nx+1+11) (s1.nx+1) ⟨(s1.nx,.cells 465 true cW)::s1.h,s1.nx+1+11⟩:=by
    refine⟨x1,Nat.le_refl _,fun n h1' h2'=> ?_⟩
    simp only[Zg]
    rw[if_neg (by omega)]
    cases hgn:Zh s1.h n with
    | none=>rfl
    | some o=>exact absurd (hx.wf.lt _ _ hgn) (by omega)
   rw[←hcW]
   refine(Zo7 H.Kh x1.wf _).use fun q1 xq=> ?_
   have kq:=xq.Zd
   have nq:=xq.nx
   simp only at kq nq
   have i1:=i0.call xq
   have i2:=i1.new (s1.nx+1) (.cells 451 false (keO i).A) (by omega) (Nat.le_refl _) (by omega)
   have nS:=i2.2.1
   simp only at nS
   simp (disch:=omega) [go_sem,reI,wanted,B.zOb,kq,d2,d4,d9,h9',Cl]
   have hSg:=hg.ext i2.1 hx.wf
   have hSg':=hg'.ext i2.1 hx.wf
   refine(hSg.Zva (b:=64) (x:= .slice (s1.nx+1) 0 1 (.known 1)) (new:=(keO i).A) (Nat.le_trans hx.nx i2.1.nx) i2.1.wf (.inr ⟨_,_,_,rfl,Lu (ty:=451) (l:=false) (by simp[Zg]) rfl⟩) (by omega) (by omega) rfl).mono ?_
   rintro k2 q2 ⟨o2,f2,r2⟩
   have yq:=(hx.trans i2.1).Ma f2 hg.ge
   have a9:=hg.apart h9
   have a9':=hg'.apart h9
   have h9q:=f2.get i2.1.wf (by have:=i2.1.Zd b9 lb9;simp only at this;rw[this,h9]) a9
   have h2q:=f2.get i2.1.wf (by have:=i2.1.Zd b2 lb2;simp only at this;rw[this,h2]) (hg.apart h2)
   have n4k:b4∉k.nms:=fun h=>by
    rcases hg.form with ⟨rfl,_⟩ | ⟨n,rfl,hn⟩
    ·cases h
    ·simp only[AV.nms,List.mem_singleton]at h
     subst h
     exact hn4 _ _ _ (by rw[←h4];exact hn)
   have n4v:b4∉v.nms:=fun h=>by
    rcases hg'.form with ⟨rfl,_⟩ | ⟨n,rfl,hn⟩
    ·cases h
    ·simp only[AV.nms,List.mem_singleton]at h
     subst h
     exact hn4 _ _ _ (by rw[←h4];exact hn)
   have h4q:=f2.get i2.1.wf (by have:=i2.1.Zd b4 lb4;simp only at this;rw[this,h4]) n4k
   have hlk:=hg.lt hx.wf
   have hlv:=hg'.lt hx.wf
   have hwq:Zh q2.h s1.nx=some (.cells 465 true cW):=f2.get i2.1.wf (by
    simp only[Zg]
    rw[if_neg (by omega),kq s1.nx (by omega)]
    simp[Zg]) (fun h=>by have:=hlk _ h;omega)
   have hv2:=hSg'.Ma f2 i2.1.wf (fun n h1 h2'=>hkv n h2' h1)
   have hk2v:∀n∈k2.nms,n∉v.nms:=fun n hn hm=>by
    rcases r2 n hn with h | h
    ·exact hkv n h hm
    ·have:=hlv n hm;simp only at h;omega
   have d9':¬b9=s1.nx:=by omega
   obtain⟨mm,hk2,_⟩:∃n,k2= .slice n 0 (i+1) .full∧Zh q2.h n=some (.buf 451 7 (Ku (keW i)++(keO i).A)):=by
    rcases o2.form with ⟨_,h0⟩ | h
    ·omega
    ·exact h
   have n9k:=o2.apart h9q
   have n9v:=hv2.apart h9q
   subst hk2
   have f3:=Frm.set (o:= .cells 486 true (Bv mx (.slice mm 0 (i+1) .full) v)) yq.wf h9q
   have y3:=yq.Ma f3 (fun n hn=>by simp only[List.mem_singleton]at hn;omega)
   have o3:=o2.Ma f3 yq.wf (fun n hn hm=>n9k (by simp only[List.mem_singleton]at hm;subst hm;exact hn))
   have v3:=hv2.Ma f3 yq.wf (fun n hn hm=>n9v (by simp only[List.mem_singleton]at hm;subst hm;exact hn))
   simp only[Bv]at h9q
   simp (disch:=omega) [go_sem,reI,wanted,o2.sc,e1,e2,h9q,hg'.sc,d9',hwq,hcW]
   have h9r:Zh (Z7 q2.h b9 (.cells 486 true (Bv mx (.slice mm 0 (i+1) .full) v))) b9=some (.cells 486 true (Bv mx (.slice mm 0 (i+1) .full) v)):=by rw[Qm,if_pos rfl,h9q];rfl
   have z1:Ext ⟨Z7 q2.h b9 (.cells 486 true (Bv mx (.slice mm 0 (i+1) .full) v)),q2.nx⟩ ⟨Z7 q2.h b9 (.cells 486 true (Bv mx (.slice mm 0 (i+1) .full) v)),q2.nx+10⟩:=(Ext.refl y3.wf).upN (by simp)
   have zz:=y3.trans z1
   have tw:=Eb H.Zr zz.wf (hwd.ext zz hw0) (hd0.ext zz hw0) hl hb hWok
   rw[hWc,hcW]at tw
   refine tw.use fun q3 xr=> ?_
   have lb9q:=yq.wf.lt _ _ h9q
   have lb2q:=yq.wf.lt _ _ h2q
   have lb4q:=yq.wf.lt _ _ h4q
   have j0:=InS.start y3.wf (M:=q2.nx+10) (by simp)
   simp only at j0
   have j1:=j0.call xr
   have k3:=j1.look
   have nr:=j1.2.1
   simp only at k3 nr
   have j2:=j1.new q2.nx (.cells 451 false (G8 hp W).A) (by simp) (Nat.le_refl _) (by omega)
   have h9r':=h9r
   simp only[Bv]at h9r' k3
   simp (disch:=omega) [go_sem,reI,wanted,B.zOb,k3,h9r',h9q,Cl]
   have hV:=v3.ext j2.1 y3.wf
   have hK2:=o3.ext j2.1 y3.wf
   refine(hV.Zva (b:=64) (x:= .slice q2.nx 0 1 (.known 1)) (new:=(G8 hp W).A) (Nat.le_trans y3.nx j2.1.nx) j2.1.wf (.inr ⟨_,_,_,rfl,Lu (ty:=451) (l:=false) (by simp[Zg]) rfl⟩) (by omega) (by omega) rfl).mono ?_
   rintro v2 q4 ⟨o4',f4,r4⟩
   have y4:=(y3.trans j2.1).Ma f4 v3.ge
   have h9s:=f4.get j2.1.wf (by have:=j2.1.Zd b9 lb9q;simp only at this;rw[this,h9r]) n9v
   have h2s:=f4.get j2.1.wf (by have:=j2.1.Zd b2 lb2q;simp only at this;rw[this,Qm,if_neg (fun h=>n29 h.symm),h2q]) (hv2.apart h2q)
   have h4s:=f4.get j2.1.wf (by have:=j2.1.Zd b4 lb4q;simp only at this;rw[this,Qm,if_neg (fun h=>n49 h.symm),h4q]) n4v
   have hKq:=hK2.Ma f4 j2.1.wf hk2v
   obtain⟨nn,hvv,_⟩:∃n,v2= .slice n 0 (i+1) .full∧Zh q4.h n=some (.buf 451 7 (Ku (vaW hp w i)++(G8 hp W).A)):=by
    rcases o4'.form with ⟨_,h0⟩ | h
    ·omega
    ·exact h
   have hkv2:∀n∈(AV.slice mm 0 (i+1) .full).nms,n∉v2.nms:=fun n hn hm=>by
    rcases r4 n hm with h | h
    ·exact hk2v n hn h
    ·have:=o3.lt y3.wf n hn;simp only at h this;omega
   have n9k2:=hKq.apart h9s
   have n9v2:=o4'.apart h9s
   subst hvv
   have f5:=Frm.set (o:= .cells 486 true (Bv mx (.slice mm 0 (i+1) .full) (.slice nn 0 (i+1) .full))) y4.wf h9s
   have y5:=y4.Ma f5 (fun n hn=>by simp only[List.mem_singleton]at hn;omega)
   have oK:=hKq.Ma f5 y4.wf (fun n hn hm=>n9k2 (by simp only[List.mem_singleton]at hm;subst hm;exact hn))
   have oV:=o4'.Ma f5 y4.wf (fun n hn hm=>n9v2 (by simp only[List.mem_singleton]at hm;subst hm;exact hn))
   have h9t:=h9s
   simp only[Bv]at h9s
   simp (disch:=omega) [go_sem,o4'.sc,e1,e2,h9s]
   refine ih (i+1) (.slice mm 0 (i+1) .full) (.slice nn 0 (i+1) .full) _ _ (by omega) y5 ?_ ?_ hkv2 ?_ ?_ ?_ (by simp[go_sem]) (by simp[go_sem]) (by simp[go_sem]) (by simp[go_sem]) (by simp[go_sem];omega)
   ·rw[Zyh,E1]
    simpa [Ku,keO,Bv] using oK
   ·rw[Zzj,E1,hW]
    simpa [Ku,Bv] using oV
   ·rw[Qm,if_neg (fun h=>n29 h.symm),h2s]
   ·rw[Qm,if_neg (fun h=>n49 h.symm),h4s]
   ·rw[Qm,if_pos rfl,h9s]
    rfl
end Go.Ev

/- Drafts of states told: a cell. -/
namespace Go.Ev
open Go
variable {T : Tab} {st st' : St}
theorem Zuy (hp:List Ce) (w:Wd) (n:Nat):(itW hp w n).length=n:=by simp[itW]
theorem Zaaw (n:Nat):(keW n).length=n:=by simp[keW]
theorem Zab2 (hp:List Ce) (w:Wd) (n:Nat):(vaW hp w n).length=n:=by simp[vaW]
set_option maxHeartbeats 4000000 in
theorem Zpv (H:B.Ye T) (hwf:st.Wf) (hwd:Wrd st) {v0:AV} {hp:List Ce} (hd:HpR st.h v0 hp) (hl:hp.length<1000000) (hb:∀c∈hp,ceL c<1000000000) {w:Wd} (hw:w.ok):
  Qt (call T (.fn 355 [] []) [.agg w.c,v0] st) fun r s=>Ext st s∧∃x,r= .agg x∧CeR s.h (Il hp w) x∧∀n∈x.flatMap AV.nms,st.nx≤n:=by
 refine Zw H.e H.f rfl ?_
 obtain⟨hK,hA,hB,hN0,hN1,hS⟩:=id hw
 have x0:=((Ext.refl hwf).Zf (o:= .cells 465 true w.c) (Nat.lt_succ_self st.nx)).Zf (o:= .cells 486 true B.zCe) (Nat.lt_succ_self (st.nx+1))
 have d0:¬st.nx+1=st.nx:=by omega
 obtain⟨k,hk⟩:∃k,w.K % 5=k:=⟨_,rfl⟩
 have hkl:k<5:=by omega
 have tk:((w.K:Int)).tmod 5=(k:Int):=by rw[Int.tmod_eq_emod_of_nonneg (by omega),←hk];rfl
 have tk':(w.K:Int) % 5=(k:Int):=by omega
 have hsub:C5 w.S none (some (.int .i64 (if(40:Int)<w.S.length then 40 else(w.S.length:Int))))=some (.str (w.S.take 40)):=by
  by_cases h:(40:Int)<w.S.length
  ·rw[if_pos h,Zdh (by omega) (by omega)]
   rfl
  ·rw[if_neg h,Zdh (by omega) (by omega),List.take_of_length_le (by omega),List.take_of_length_le (by omega)]
 have hsl:(w.S.take 40).length≤40:=by rw[List.length_take];omega
 obtain⟨S,hS40⟩:∃S,w.S.take 40=S:=⟨_,rfl⟩
 rw[hS40]at hsub hsl
 unfold Il
 rw[hk,hS40]
 have:k=0∨k=1∨k=2∨k=3∨k=4:=by omega
 rcases this with rfl | rfl | rfl | rfl | rfl
 ·simp (disch:=omega) [B.Q8,go_sem,hd.sc,Wd.c,B.zCe,d0,tk,tk',hsub]
  exact⟨(((Ext.refl hwf).Zf (Nat.lt_succ_self _)).Zf (Nat.lt_succ_self _)).Zb,⟨.Zc,.Zc,.Zc,rfl,.nil _,.nil _,.nil _⟩,by simp[AV.nms]⟩
 ·simp (disch:=omega) [B.Q8,go_sem,hd.sc,Wd.c,B.zCe,d0,tk,tk',hsub]
  exact⟨(((Ext.refl hwf).Zf (Nat.lt_succ_self _)).Zf (Nat.lt_succ_self _)).Zb,⟨.Zc,.Zc,.Zc,rfl,.nil _,.nil _,.nil _⟩,by simp[AV.nms]⟩
 ·simp (disch:=omega) [B.Q8,go_sem,hd.sc,Wd.c,B.zCe,d0,tk,tk',hsub]
  have xa:=x0.Zf (o:= .cells 486 true (Zfe .Zc)) (Nat.lt_succ_self (st.nx+1+1))
  refine(Zz4 H hwf hwd hd hl hb hw (b2:=st.nx) (b4:=st.nx+1) (b6:=st.nx+1+1) (o4:= .cells 486 true B.zCe) (by omega) (by omega) (by omega) (by omega) (by omega) (fun a b c h=>by cases h) (w.A % 6) 0 .Zc _ _ (by omega) xa (by simpa [itW,Ku] using J0.nil 451 7 st _) ?_ ?_ ?_ (by simp[go_sem]) (by simp[go_sem]) (by simp[go_sem]) (by simp[go_sem]) (by simp[go_sem])).mono ?_
  ·rw[Zg,if_neg (by omega),Zg,if_neg (by omega),Zg,if_pos rfl]
  ·rw[Zg,if_neg (by omega),Zg,if_pos rfl]
  ·rw[Zg,if_pos rfl]
  ·rintro x e' s' ⟨rfl,hx,q4,q6,h4,v',h6,hg⟩
   simp only[Zfe]at h6
   simp only[B.zCe]at h4
   have l4:=hx.wf.lt _ _ h4
   have sv:=hg.sc
   have n4:=hg.apart h4
   simp (disch:=omega) [go_sem,q4,q6,h4,h6,sv]
   have rI:RdO s'.h v' (itW hp w (w.A % 6)):=by unfold RdO;rw[Zuy];exact hg.rds
   have y6:=Ext.Qw (st:=st) (h:=s'.h) (m:=s'.nx) (n:=st.nx+1) (o:= .cells 486 true (Zfe v')) hx (by omega)
   have r6:=RdO.Z7 (o':= .cells 486 true (Zfe v')) rI h4 rfl
   exact⟨y6.Zb,⟨v',.Zc,.Zc,rfl,RdS.Zb (st:=⟨Z7 s'.h (st.nx+1) (.cells 486 true (Zfe v')),s'.nx⟩) r6 y6.wf,.nil _,.nil _⟩,fun n=>⟨fun h=>(by simp[AV.nms]at h),fun h=>(by simp[AV.nms]at h),fun h=>hg.ge n h,fun h=>(by simp[AV.nms]at h),fun h=>(by simp[AV.nms]at h)⟩⟩
 ·simp (disch:=omega) [B.Q8,go_sem,hd.sc,Wd.c,B.zCe,d0,tk,tk',hsub]
  refine(Znr H.Kg x0.wf _).use fun s1 x1=> ?_
  have k1:=x1.Zd
  have n1:=x1.nx
  simp only at k1 n1
  have tA:((w.A:Int)).tmod 6=((w.A % 6:Nat):Int):=by rw[Int.tmod_eq_emod_of_nonneg (by omega)];rfl
  obtain⟨mx,hmx⟩:∃mx,w.A % 6=mx:=⟨_,rfl⟩
  rw[hmx]at tA⊢
  have wmx:IntKind.i64.wrap (mx:Int)=(mx:Int):=Zo (by omega) (by omega)
  rw[tA,wmx]
  simp (disch:=omega) [go_sem,B.zCe,k1]
  have y1:=x0.trans x1
  have xa:=y1.Zf (o:= .cells 486 true (Bv mx .Zc .Zc)) (Nat.lt_succ_self s1.nx)
  have h2a:Zh s1.h st.nx=some (.cells 465 true w.c):=by
   have:=x1.Zd st.nx (show st.nx<st.nx+1+1 by omega)
   simp only at this
   rw[this,Zg,if_neg (by omega),Zg,if_pos rfl]
  have h4a:Zh s1.h (st.nx+1)=some (.cells 486 true B.zCe):=by
   have:=x1.Zd (st.nx+1) (show st.nx+1<st.nx+1+1 by omega)
   simp only at this
   rw[this,Zg,if_pos rfl]
  refine(Zz5 H hwf hwd hd hl hb hw (b2:=st.nx) (b4:=st.nx+1) (b9:=s1.nx) (o4:= .cells 486 true B.zCe) (by omega) (by omega) (by omega) (by omega) (by omega) (fun a b c h=>by cases h) (mx:=mx) (by omega) (min (w.B % 4) mx) 0 .Zc .Zc _ _ (by omega) xa (by simpa [keW,Ku] using J0.nil 451 7 st _) (by simpa [vaW,Ku] using J0.nil 451 7 st _) (fun n h=>by cases h) ?_ ?_ ?_ (by simp[go_sem]) (by simp[go_sem]) (by simp[go_sem]) (by simp[go_sem]) (by simp[go_sem])).mono ?_
  ·rw[Zg,if_neg (by omega),h2a]
  ·rw[Zg,if_neg (by omega),h4a]
  ·rw[Zg,if_pos rfl]
  ·rintro x e' s' ⟨rfl,hx,q4,q9,h4,k',v',h9,hg,hg'⟩
   simp only[Bv]at h9
   simp only[B.zCe]at h4
   have l4:=hx.wf.lt _ _ h4
   have sk:=hg.sc
   have sv:=hg'.sc
   simp (disch:=omega) [go_sem,q4,q9,h4,h9,sk,sv]
   have rK:RdO s'.h k' (keW (min (w.B % 4) mx)):=by unfold RdO;rw[Zaaw];exact hg.rds
   have rV:RdO s'.h v' (vaW hp w (min (w.B % 4) mx)):=by unfold RdO;rw[Zab2];exact hg'.rds
   have y6:=Ext.Qw (st:=st) (h:=s'.h) (m:=s'.nx) (n:=st.nx+1) (o:= .cells 486 true (Bv mx k' v')) hx (by omega)
   have r6:=RdO.Z7 (o':= .cells 486 true (Bv mx k' v')) rK h4 rfl
   have r7:=RdO.Z7 (o':= .cells 486 true (Bv mx k' v')) rV h4 rfl
   exact⟨y6.Zb,⟨.Zc,k',v',by rw[show (w.A:Int) % 6=(mx:Int)by omega],.nil _,RdS.Zb (st:=⟨Z7 s'.h (st.nx+1) (.cells 486 true (Bv mx k' v')),s'.nx⟩) r6 y6.wf,RdS.Zb (st:=⟨Z7 s'.h (st.nx+1) (.cells 486 true (Bv mx k' v')),s'.nx⟩) r7 y6.wf⟩,fun n=>⟨fun h=>(by simp[AV.nms]at h),fun h=>(by simp[AV.nms]at h),fun h=>(by simp[AV.nms]at h),fun h=>hg.ge n h,fun h=>hg'.ge n h,fun h=>(by simp[AV.nms]at h),fun h=>(by simp[AV.nms]at h)⟩⟩
 ·obtain⟨Ln,hLn⟩:∃Ln:Int,(S.length:Int)=Ln:=⟨_,rfl⟩
  have hLn0:¬Ln+1=0:=by omega
  simp -implicitDefEqProofs (disch:=omega) [B.Q8,go_sem,hd.sc,Wd.c,B.zCe,d0,tk,tk',hsub,hLn,hLn0]
  have tB:IntKind.i64.wrap (((w.B:Int)).tmod 2)=(w.B:Int) % 2:=by
   rw[Int.tmod_eq_emod_of_nonneg (by omega),Zo (by omega) (by omega)]
  have tA:((w.A:Int)).tmod (Ln+1)=(w.A:Int) % (Ln+1):=Int.tmod_eq_emod_of_nonneg (by omega)
  rw[tB,tA]
  exact⟨(((Ext.refl hwf).Zf (Nat.lt_succ_self _)).Zf (by omega)).Zb,⟨.Zc,.Zc,.Zc,rfl,.nil _,.nil _,.nil _⟩,by simp[AV.nms]⟩
end Go.Ev

/- Drafts of states told: heaps that grow. -/
namespace Go.Ev
open Go
variable {T : Tab} {st st' : St}
theorem CeR.Ma {c:Ce} {cs:List AV} {S:List Nat} (a:CeR st.h c cs) (x:Frm S st st') (hw:st.Wf) (hn:∀n∈cs.flatMap AV.nms,n∉S):CeR st'.h c cs:=by
 obtain⟨p,q,r,rfl,h1,h2,h3⟩:=a
 refine⟨p,q,r,rfl,RdS.Ma h1 x hw (fun n h=>hn n (List.mem_flatMap.2 ⟨p,by simp,h⟩)),RdS.Ma h2 x hw (fun n h=>hn n (List.mem_flatMap.2 ⟨q,by simp,h⟩)),RdS.Ma h3 x hw (fun n h=>hn n (List.mem_flatMap.2 ⟨r,by simp,h⟩))⟩
theorem U2.Ma {S:List Nat} (x:Frm S st st') (hw:st.Wf):∀{l:List Ce} {cs:List AV},U2 st.h l cs→(∀n∈cs.flatMap AV.nms,n∉S)→U2 st'.h l cs
 | [],_,a,_=>a
 | c::l,_,⟨y,r,e,h1,h2⟩,hn=>by
   subst e
   rw[List.flatMap_append]at hn
   exact⟨y,r,rfl,h1.Ma x hw (fun n h=>hn n (List.mem_append.2 (.inl h))),U2.Ma x hw h2 (fun n h=>hn n (List.mem_append.2 (.inr h)))⟩
theorem CeR.lt {c:Ce} {cs:List AV} (a:CeR st.h c cs) (hw:st.Wf):∀n∈cs.flatMap AV.nms,n<st.nx:=by
 obtain⟨p,q,r,rfl,h1,h2,h3⟩:=a
 intro n hn
 have:n∈p.nms∨n∈q.nms∨n∈r.nms:=by
  obtain⟨y,hy,hm⟩:=List.mem_flatMap.1 hn
  simp only[List.mem_cons,List.not_mem_nil,or_false]at hy
  rcases hy with rfl | rfl | rfl | rfl | rfl | rfl | rfl
  ·cases hm
  ·cases hm
  ·exact .inl hm
  ·exact .inr (.inl hm)
  ·exact .inr (.inr hm)
  ·cases hm
  ·cases hm
 rcases this with h | h | h
 ·exact RdS.lt h1 hw n h
 ·exact RdS.lt h2 hw n h
 ·exact RdS.lt h3 hw n h
theorem U2.lt (hw:st.Wf):∀{l:List Ce} {cs:List AV},U2 st.h l cs→∀n∈cs.flatMap AV.nms,n<st.nx
 | [],_,a,n,hn=>by cases a;cases hn
 | c::l,_,⟨y,r,e,h1,h2⟩,n,hn=>by
   subst e
   rw[List.flatMap_append]at hn
   rcases List.mem_append.1 hn with h | h
   ·exact h1.lt hw n h
   ·exact U2.lt hw h2 n h
def R8 (st0 s:St) (v:AV) (hp:List Ce):Prop:=∃cs,J0 486 7 st0 s v hp.length cs∧U2 s.h hp cs∧∀n∈cs.flatMap AV.nms,n∉v.nms
theorem R8.hp {st0 s:St} {v:AV} {hp:List Ce} (a:R8 st0 s v hp):HpR s.h v hp:=by
 obtain⟨cs,h1,h2,_⟩:=a
 exact⟨cs,h2,h1.rds⟩
theorem R8.ext {st0 s s':St} {v:AV} {hp:List Ce} (a:R8 st0 s v hp) (x:Ext s s') (hw:s.Wf):R8 st0 s' v hp:=by
 obtain⟨cs,h1,h2,h3⟩:=a
 exact⟨cs,h1.ext x hw,h2.ext x hw,h3⟩
theorem R8.sc {st0 s:St} {v:AV} {hp:List Ce} (a:R8 st0 s v hp):v.sc=true:=by
 obtain⟨cs,h1,_⟩:=a
 exact h1.sc
theorem R8.ge {st0 s:St} {v:AV} {hp:List Ce} (a:R8 st0 s v hp):∀n∈v.nms,st0.nx≤n:=by
 obtain⟨cs,h1,_⟩:=a
 exact h1.ge
theorem R8.push {st0 s1:St} (hF:st0.nx≤s1.nx) (hw:s1.Wf) {v x:AV} {hp:List Ce} {c:Ce} {row:List AV} (g:R8 st0 s1 v hp) (hx:Rd s1.h x 7 1 row) (hc:CeR s1.h c row) (hn:∀n∈row.flatMap AV.nms,n∉v.nms) (hl:hp.length<1000000000):
  Qt (Vf 486 7 112 s1 v x) fun v' s=>R8 st0 s v' (hp++[c])∧Frm v.nms s1 s:=by
 obtain⟨cs,h1,h2,h3⟩:=g
 refine(h1.Zva hF hw hx hl (by omega) hc.sc).mono ?_
 rintro v2 s2 ⟨o2,f2,r2⟩
 refine⟨⟨cs++row,by simpa using o2,U2.snoc (hc.Ma f2 hw hn) (U2.Ma f2 hw h2 h3),fun n hm hv=> ?_⟩,f2⟩
 rw[List.flatMap_append]at hm
 rcases r2 n hv with h | h
 ·rcases List.mem_append.1 hm with h' | h'
  ·exact h3 n h' h
  ·exact hn n h' h
 ·rcases List.mem_append.1 hm with h' | h'
  ·have:=U2.lt hw h2 n h';omega
  ·have:=hc.lt hw n h';omega
end Go.Ev

/- Plain law: comparisons. -/
namespace Go.Ev
open Go
def opEq:List UInt8:=[101,113]
def opNe:List UInt8:=[110,101]
theorem Zagr (hp:List Ce) (x y:Ob):Ie hp [x,y] opEq=(Qp (Np hp x y),true):=by
 refine Zpc (h':=hp) ?_
 show r23 (Dr [x,y] hp true) hp=_
 unfold Dr
 rw[if_neg (by simp[Yq,allowed,Js])]
 show (0,[Qp (Np hp x y == true)],hp)=_
 cases Np hp x y <;> rfl
theorem Zag1 (hp:List Ce) (x y:Ob):Ie hp [x,y] opNe=(Qp (!Np hp x y),true):=by
 refine Zpc (h':=hp) ?_
 show r23 (Dr [x,y] hp false) hp=_
 unfold Dr
 rw[if_neg (by simp[Yq,allowed,Js])]
 show (0,[Qp (Np hp x y == false)],hp)=_
 cases Np hp x y <;> rfl
def Dk (x y:Ob):Bool:=((decide (x.k=3) || decide (x.k=4)) && (decide (y.k=3) || decide (y.k=4))) || (decide (x.k=6) && decide (y.k=6))
def Zno (hp:List Ce) (x y:Ob):Int:=if x.k=6 then Lib.compareBytes (Jn hp x).1 (Jn hp y).1 else(O6 x y).1
theorem Zuq (hp:List Ce) (x y:Ob) (f:Int→Bool):(Dk x y=true→No [x,y] hp f=(0,[Qp (f (Zno hp x y))]))∧(Dk x y=false→(No [x,y] hp f).1≠0):=by
 have o0:Jf [x,y] 2 0=x:=rfl
 have o1:Jf [x,y] 2 1=y:=rfl
 unfold No
 rw[o0,o1]
 by_cases h5:x.k=3∨x.k=4∨x.k=6
 ·have he:Yq [x,y] [5,0]=0:=by
   rcases h5 with h | h | h <;> simp[Yq,allowed,Js,h]
  rw[if_neg (by rw[he];simp)]
  by_cases h6:x.k=6
  ·rw[if_pos h6]
   by_cases hy:y.k=6
   ·rw[if_pos (by simp[Js,hy])]
    exact⟨fun _=>by simp[Zbq,Zgi,Zno,h6],fun h=>by simp[Dk,h6,hy]at h⟩
   ·rw[if_neg (by simp[Js,hy])]
    exact⟨fun h=>by simp[Dk,h6,hy]at h,fun _=>by decide⟩
  ·rw[if_neg h6]
   by_cases hy:y.k=3∨y.k=4
   ·have hx:x.k=3∨x.k=4:=by omega
    rw[if_pos (by simp[Js];exact hy)]
    exact⟨fun _=>by simp[Zbq,Zgi,Zno,h6],fun h=>by rcases hx with hx | hx <;> rcases hy with hy | hy <;> simp[Dk,hx,hy]at h⟩
   ·rw[if_neg (by simp[Js];omega)]
    exact⟨fun h=>by simp[Dk,h6]at h;omega,fun _=>by decide⟩
 ·have he:Yq [x,y] [5,0]=22:=by
   have h1:¬x.k=3:=by omega
   have h2:¬x.k=4:=by omega
   have h3:¬x.k=6:=by omega
   simp[Yq,allowed,Js,h1,h2,h3]
  rw[if_pos (by rw[he];decide)]
  exact⟨fun h=>by simp[Dk]at h;omega,fun _=>by rw[he];decide⟩
theorem Zqd:∀a b:List UInt8,Lib.compareBytes a b=0↔a=b
 | [],[]=>by simp[Lib.compareBytes]
 | [],_::_=>by simp[Lib.compareBytes]
 | _::_,[]=>by simp[Lib.compareBytes]
 | a::as,b::bs=>by
   simp only[Lib.compareBytes]
   by_cases h1:a<b
   ·rw[if_pos h1]
    have:a≠b:=fun h=>by subst h;exact absurd h1 (UInt8.lt_irrefl a)
    simp[this]
   ·rw[if_neg h1]
    by_cases h2:b<a
    ·rw[if_pos h2]
     have:a≠b:=fun h=>by subst h;exact h1 h2
     simp[this]
    ·rw[if_neg h2,Zqd as bs]
     have:a=b:=UInt8.le_antisymm (UInt8.not_lt.1 h2) (UInt8.not_lt.1 h1)
     simp[this]
theorem Zvs {hp:List Ce} {x y:Ob} (hx:Yz hp x=true) (hy:Yz hp y=true) (hb:Dk x y=true):Np hp x y=decide (Zno hp x y=0):=by
 have cx:Je x=true:=by unfold Yz at hx;exact(Bool.and_eq_true _ _▸hx).1
 have cy:Je y=true:=by unfold Yz at hy;exact(Bool.and_eq_true _ _▸hy).1
 unfold Np
 rw[hx,hy,Bool.true_and,Bool.true_and]
 by_cases h6:x.k=6
 ·have hy6:y.k=6:=by simp[Dk,h6]at hb;exact hb
  have hc:(O6 x y).2=22:=by
   unfold O6
   rw[if_pos ⟨cx,cy⟩,if_neg (by simp[Tf,h6])]
  have bx:(Jn hp x).2=0:=by unfold Jn Hc;rw[if_pos hx];simp[h6]
  have by':(Jn hp y).2=0:=by unfold Jn Hc;rw[if_pos hy];simp[hy6]
  have ox:Tg hp x=((Jn hp x).1,true):=by unfold Tg;rw[if_neg (by omega),bx];rfl
  have oy:Tg hp y=((Jn hp y).1,true):=by unfold Tg;rw[if_neg (by omega),by'];rfl
  rw[hc,if_neg (by decide),ox,oy]
  unfold Zno
  rw[if_pos h6]
  simp only[Bool.and_self,if_true]
  exact decide_eq_decide.2 (Zqd _ _).symm
 ·have hn:(x.k=3∨x.k=4)∧(y.k=3∨y.k=4):=by simp[Dk,h6]at hb;exact hb
  have hc:(O6 x y).2=0:=by
   unfold O6
   rw[if_pos ⟨cx,cy⟩,if_pos (by simp[Tf];exact hn)]
  rw[hc,if_pos rfl]
  unfold Zno
  rw[if_neg h6]
theorem Zih {hp:List Ce} {x y:Ob} {op:List UInt8} {f:Int→Bool} (h:doR [x,y] hp op=r23 (No [x,y] hp f) hp) (hb:Dk x y=true):Ie hp [x,y] op=(Qp (f (Zno hp x y)),true):=
 Zpc (h':=hp) (by rw[h,(Zuq hp x y f).1 hb];rfl)
theorem Znp {hp:List Ce} {x y:Ob} {op:List UInt8} {f:Int→Bool} (h:doR [x,y] hp op=r23 (No [x,y] hp f) hp) (hb:Dk x y=false):Ie hp [x,y] op=(obZ,false):=by
 unfold Ie
 rw[if_neg (fun hh=>(Zuq hp x y f).2 hb (by rw[h]at hh;exact hh.1))]
theorem Zacp (hp:List Ce) (x y:Ob):doR [x,y] hp [108,116]=r23 (No [x,y] hp fun c=>decide (c<0)) hp:=rfl
theorem Zacn (hp:List Ce) (x y:Ob):doR [x,y] hp [108,101]=r23 (No [x,y] hp fun c=>decide (c≤0)) hp:=rfl
theorem Zacj (hp:List Ce) (x y:Ob):doR [x,y] hp [103,116]=r23 (No [x,y] hp fun c=>decide (0<c)) hp:=rfl
theorem Zaci (hp:List Ce) (x y:Ob):doR [x,y] hp [103,101]=r23 (No [x,y] hp fun c=>decide (0≤c)) hp:=rfl
theorem Zaeb (c:Int):(Qp (decide (c<0))).n+(Qp (decide (c=0))).n+(Qp (decide (0<c))).n=1∧(Qp (decide (c≤0))).n=(Qp (decide (c<0))).n+(Qp (decide (c=0))).n∧(Qp (decide (0≤c))).n=(Qp (decide (0<c))).n+(Qp (decide (c=0))).n:=by
 have h:∀p:Prop,[Decidable p]→(Qp (decide p)).n=if p then 1 else 0:=fun p _=>by by_cases hp:p <;> simp[Qp,hp]
 simp only[h]
 refine⟨?_,?_,?_⟩ <;> (repeat' split) <;> omega
end Go.Ev

/- Plain law: a number's text is read back by cvi, cvr. -/
namespace Go.Ev
open Go
theorem Zyj {n:Int} (h0: -2147483648≤n) (h1:n≤2147483647):Je (Jc n)=true:=by
 simp[Je,Jc,Zl8,Zo6,Zc0,Cc,Zkh]
 omega
theorem Zv9 {n:Int} (h0: -2147483648≤n) (h1:n≤2147483647):Je (Uc n)=true:=by
 simp[Je,Uc,Zl8,Zo6,Zc0,Cc,Zkh]
 omega
end Go.Ev

/- Plain law: words fit their heap. -/
namespace Go.Ev
open Go
def HpW (hp:List Ce):Prop:=hp.length≤20∧∀c∈hp,c.k=1→c.b.length≤40∧c.it=[]
theorem Zec {hp:List Ce} {n:Int} (h0: -2147483648≤n) (h1:n≤2147483647):Yz hp (Jc n)=true:=by
 unfold Yz;rw[Zyj h0 h1];rfl
theorem Zm2 {hp:List Ce} {n:Int} (h0: -2147483648≤n) (h1:n≤2147483647):Yz hp (Uc n)=true:=by
 unfold Yz;rw[Zv9 h0 h1];rfl
theorem Zaa9 (o:Ob) (len B:Nat):(Zrp o len B).k=o.k:=by unfold Zrp;split <;> rfl
theorem Zaba (hp:List Ce) (kind cell:Int) (w:Wd):(E2 hp kind cell w).k=kind∨E2 hp kind cell w=Jc (w.A:Int):=by
 unfold E2
 split
 ·exact .inr rfl
 ·split
  ·exact .inl rfl
  ·exact .inl (Zaa9 _ _ _)
theorem Zzb {hp:List Ce} (hH:HpW hp) {w:Wd} (hw:w.ok):Yz hp (E2 hp 6 1 w)=true:=by
 obtain⟨hK,hA,hB,hN0,hN1,hS⟩:=hw
 unfold E2
 rcases Zha hp 1 w.A with hm | ⟨i,c,hi,hc,hck⟩
 ·rw[hm,if_pos (by decide)]
  exact Zec (by omega) (by omega)
 ·rw[hi,if_neg (by omega),if_neg (by decide)]
  obtain⟨hb,hit⟩:=hH.2 c (List.mem_of_getElem? hc) hck
  have hil:i<hp.length:=(List.getElem?_eq_some_iff.1 hc).1
  have hl:=hH.1
  have hgd:hp.getD (i:Int).toNat default=c:=by rw[Int.toNat_natCast,List.getD_eq_getElem?_getD,hc];rfl
  rw[hgd]
  have hL:ceL c=c.b.length:=by unfold ceL;rw[hit];rfl
  rw[hL]
  have key:∀(x:Bool) (o l:Nat),o+l≤c.b.length→Yz hp ⟨6,x,0,[],(i:Int),(o:Int),(l:Int)⟩=true:=by
   intro x o l ho
   have hch:Je ⟨6,x,0,[],(i:Int),(o:Int),(l:Int)⟩=true:=by
    simp[Je,Zl8,Zo6,Zc0,Zb3,Cc,Zkh]
    omega
   unfold Yz
   rw[hch]
   have hca:Zdl hp (i:Int)=some c:=by simpa [Zdl] using hc
   simp[Znn,hca,hck,Zgs]
   omega
  unfold Zrp
  split
  ·have h1:=Nat.mod_lt w.B (show 0<c.b.length+1 by omega)
   have h2:=Nat.mod_lt (w.B / 3) (show 0<c.b.length - w.B % (c.b.length+1)+1 by omega)
   exact key _ _ _ (by omega)
  ·have:=key (decide (w.N.tmod 5=3)) 0 c.b.length (by omega)
   simpa using this
theorem Zql {a b:Int} (h:0≤a) (hb:0<b):a % b≤a:=by
 obtain⟨x,rfl⟩:=Int.eq_ofNat_of_zero_le h
 obtain⟨y,rfl⟩:=Int.eq_ofNat_of_zero_le (show 0≤b by omega)
 have:=Nat.mod_le x y
 rw[←Int.natCast_emod]
 omega
theorem Zmy {hp:List Ce} (hH:HpW hp) {w:Wd} (hw:w.ok) (h:(G8 hp w).k=3∨(G8 hp w).k=4∨(G8 hp w).k=6):Yz hp (G8 hp w)=true:=by
 obtain⟨hK,hA,hB,hN0,hN1,hS⟩:=id hw
 have hpart:∀kind cell:Int,kind≠3→kind≠4→kind≠6→((E2 hp kind cell w).k=3∨(E2 hp kind cell w).k=4∨(E2 hp kind cell w).k=6)→Yz hp (E2 hp kind cell w)=true:=by
  intro kind cell h3 h4 h6 hk
  rcases Zaba hp kind cell w with e | e
  ·rw[e]at hk;omega
  ·rw[e];exact Zec (by omega) (by omega)
 have t10:∀m:Int,0<m→-2147483648≤w.N.tmod m∧w.N.tmod m≤2147483647:=by
  intro m hm
  by_cases hn:0≤w.N
  ·rw[Int.tmod_eq_emod_of_nonneg hn]
   have a1:=Int.emod_nonneg w.N (show m≠0 by omega)
   have a2:=Zql hn hm
   omega
  ·have e:w.N= -(-w.N):=by omega
   rw[e,Int.neg_tmod,Int.tmod_eq_emod_of_nonneg (by omega)]
   have a1:=Int.emod_nonneg (-w.N) (show m≠0 by omega)
   have a2:=Zql (show 0≤-w.N by omega) hm
   omega
 unfold G8 at h⊢
 by_cases e0:w.K % 16=0
 ·rw[if_pos e0]at h⊢
  simp[obZ]at h
 rw[if_neg e0]at h⊢
 by_cases e1:w.K % 16=1
 ·rw[if_pos e1]at h⊢
  simp at h
 rw[if_neg e1]at h⊢
 by_cases e2:w.K % 16=2
 ·rw[if_pos e2]at h⊢
  simp at h
 rw[if_neg e2]at h⊢
 by_cases e3:w.K % 16=3∨w.K % 16=4
 ·rw[if_pos e3]at h⊢
  exact Zec (t10 10 (by decide)).1 (t10 10 (by decide)).2
 rw[if_neg e3]at h⊢
 by_cases e4:w.K % 16=5
 ·rw[if_pos e4]at h⊢
  exact Zec hN0 hN1
 rw[if_neg e4]at h⊢
 by_cases e5:w.K % 16=6
 ·rw[if_pos e5]at h⊢
  exact Zm2 (t10 1048576 (by decide)).1 (t10 1048576 (by decide)).2
 rw[if_neg e5]at h⊢
 by_cases e6:w.K % 16=7
 ·rw[if_pos e6]at h⊢
  exact Zm2 hN0 hN1
 rw[if_neg e6]at h⊢
 by_cases e7:w.K % 16=8∨w.K % 16=9
 ·rw[if_pos e7]at h⊢
  simp at h
 rw[if_neg e7]at h⊢
 by_cases e8:w.K % 16=10
 ·rw[if_pos e8]at h⊢
  exact Zzb hH hw
 rw[if_neg e8]at h⊢
 by_cases e9:w.K % 16=11
 ·rw[if_pos e9]at h⊢
  exact hpart 7 2 (by decide) (by decide) (by decide) h
 rw[if_neg e9]at h⊢
 by_cases e10:w.K % 16=12
 ·rw[if_pos e10]at h⊢
  exact hpart 8 2 (by decide) (by decide) (by decide) h
 rw[if_neg e10]at h⊢
 by_cases e11:w.K % 16=13
 ·rw[if_pos e11]at h⊢
  exact hpart 9 3 (by decide) (by decide) (by decide) h
 rw[if_neg e11]at h⊢
 by_cases e12:w.K % 16=14
 ·rw[if_pos e12]at h⊢
  simp at h
 rw[if_neg e12]at h⊢
 exact hpart 11 4 (by decide) (by decide) (by decide) h
def diC (n:Int) (ks vs:List Ob):Ce:=⟨3,[],[],ks,vs,n,0⟩
def Fy:List Ce:=
 let nm:=fun s:List UInt8=>(⟨5,false,0,s,0,0,0⟩:Ob)
 let op:=fun s:List UInt8=>(⟨10,true,0,s,0,0,0⟩:Ob)
 let di:=fun r:Int=>(⟨9,false,0,[],r,0,0⟩:Ob)
 [diC 200 [nm [97,100,100],nm [112,111,112]] [op [97,100,100],op [112,111,112]],diC 50 [] [],diC 30 [] [],diC 12 [] [],
  diC 5 [nm [70,111,110,116],nm [80,97,116,116,101,114,110],nm [69,110,99,111,100,105,110,103],nm [70,111,114,109],nm [71,101,110,101,114,105,99]] [di 5,di 6,di 7,di 8,di 9],
  diC 10 [] [],diC 10 [] [],diC 10 [] [],diC 10 [] [],diC 10 [] []]
def Fk:List Ce→List Wd→List Ce
 | h,[]=>h
 | h,w::r=>Fk (h++[Il h w]) r
def Bi (ws:List Wd):List Ce:=Fk Fy (ws.take 10)
theorem Zju:∀(h:List Ce) (ws:List Wd) (w:Wd),Fk h (ws++[w])=Fk h ws++[Il (Fk h ws) w]
 | h,[],w=>rfl
 | h,v::r,w=>Zju (h++[Il h v]) r w
theorem Zf2:∀(h:List Ce) (ws:List Wd),(Fk h ws).length=h.length+ws.length
 | h,[]=>rfl
 | h,w::r=>by simp only[Fk,Zf2 (h++[Il h w]) r,List.length_append,List.length_cons,List.length_nil];omega
theorem Zvn (h:List Ce) (w:Wd) (hk:(Il h w).k=1):(Il h w).b.length≤40∧(Il h w).it=[]:=by
 unfold Il at hk⊢
 by_cases h1:w.K % 5=0∨w.K % 5=1
 ·rw[if_pos h1]
  exact⟨by simp;omega,rfl⟩
 ·rw[if_neg h1]at hk⊢
  by_cases h2:w.K % 5=2
  ·rw[if_pos h2]at hk;simp at hk
  ·rw[if_neg h2]at hk⊢
   by_cases h3:w.K % 5=3
   ·rw[if_pos h3]at hk;simp at hk
   ·rw[if_neg h3]at hk;simp at hk
theorem Zmu:∀(ws:List Wd) (h:List Ce),(∀c∈h,c.k=1→c.b.length≤40∧c.it=[])→∀c∈Fk h ws,c.k=1→c.b.length≤40∧c.it=[]
 | [],h,a=>a
 | w::r,h,a=>Zmu r _ (fun c hc hk=>by
   rcases List.mem_append.1 hc with hc | hc
   ·exact a c hc hk
   ·simp only[List.mem_singleton]at hc
    subst hc
    exact Zvn h w hk)
theorem Zqx (ws:List Wd):HpW (Bi ws):=by
 refine⟨?_,Zmu _ _ (by simp[Fy,diC])⟩
 unfold Bi
 rw[Zf2,List.length_take]
 show 10+_≤20
 omega
end Go.Ev

/- Drafts of states told: the heap's loop. -/
namespace Go.Ev
open Go
variable {T : Tab} {st st' : St}
def InW (h:Heap) (v:AV) (l:List Wd):Prop:=Rd h v 5 l.length (l.flatMap Wd.c)∧∀w∈l,w.ok
theorem InW.ext {v:AV} {l:List Wd} (a:InW st.h v l) (x:Ext st st') (hw:st.Wf):InW st'.h v l:=⟨a.1.ext x hw,a.2⟩
theorem Zuh:∀{l:List Wd} {i:Nat} {t:Wd},l[i]? =some t→((l.flatMap Wd.c).drop (i*5)).take 5=t.c
 | [],i,t,h=>by simp at h
 | x::r,0,t,h=>by
   simp at h
   subst h
   simp[Wd.c]
 | x::r,i+1,t,h=>by
   have:=Zuh (l:=r) (i:=i) (t:=t) (by simpa using h)
   rw[←this]
   have e:(i+1)*5=(Wd.c x).length+i*5:=by simp[Wd.c];omega
   rw[e]
   simp only[List.flatMap_cons]
   rw[←List.drop_drop,List.drop_left]
theorem InW.acc {v:AV} {l:List Wd} (a:InW st.h v l) {i:Nat} {w:Wd} (hw:l[i]? =some w):∃n off cp ob,v= .slice n off l.length cp∧Zh st.h n=some ob∧A4 ob (off+i*5) 5=some w.c:=by
 have hil:i<l.length:=(List.getElem?_eq_some_iff.1 hw).1
 rcases a.1 with ⟨h1,h2,h3⟩ | ⟨n,off,cp,h1,h2⟩
 ·omega
 ·have h3:=P2 h2 (o:=i*5) (k:=5) (by omega)
  rw[Zuh hw,Cd]at h3
  cases hg:Zh st.h n with
  | none=>rw[hg]at h3;cases h3
  | some ob=>rw[hg]at h3;exact⟨n,off,cp,ob,h1,hg,h3⟩
theorem Zz3 (h:List Ce) (w:Wd):ceL (Il h w)≤45:=by
 unfold Il ceL
 by_cases h1:w.K % 5=0∨w.K % 5=1
 ·rw[if_pos h1];simp;omega
 ·rw[if_neg h1]
  by_cases h2:w.K % 5=2
  ·rw[if_pos h2];simp[Zuy];omega
  ·rw[if_neg h2]
   by_cases h3:w.K % 5=3
   ·rw[if_pos h3];simp
   ·rw[if_neg h3];simp;omega
theorem Zod:∀(ws:List Wd) (h:List Ce),(∀c∈h,ceL c≤45)→∀c∈Fk h ws,ceL c≤45
 | [],h,a=>a
 | w::r,h,a=>Zod r _ (fun c hc=>by
   rcases List.mem_append.1 hc with hc | hc
   ·exact a c hc
   ·simp only[List.mem_singleton]at hc
    subst hc
    exact Zz3 h w)
theorem Zqp:∀c∈Fy,ceL c≤45:=by simp[Fy,diC,ceL]
set_option maxHeartbeats 4000000 in
theorem Zaaq (H:B.Vq T) {st0:St} (hw0:st0.Wf) (hwd:Wrd st0) {vc vo vd:AV} {ws:List Wd} (hd0:InW st0.h vc ws) {b1:Nat}:
  ∀(m i:Nat) (v:AV) (e:Env) (s1:St),i+m=min ws.length 10→Ext st0 s1→R8 st0 s1 v (Fk Fy (ws.take i))→Zh s1.h b1=some (.cells 430 true [vc,vo,vd])→b1∉v.nms→Zl e 1= .ptr b1 0→Zl e 3=v→Zl e 4= .int .i64 (i:Int)→
  Res (run T (.loop B.Kt) e s1) fun x e' s'=>x= .exit 0∧Ext st0 s'∧R8 st0 s' (Zl e' 3) (Bi ws):=by
 intro m
 induction m with
 | zero=>
   intro i v e s1 hi hx hg h1 hb1 e1 e3 e4
   have hT:Fk Fy (ws.take i)=Bi ws:=by
    unfold Bi
    congr 1
    rw[List.take_eq_take_iff]
    omega
   rw[hT]at hg
   have hvc:Y0 vc=some (.int .i64 (ws.length:Int)):=by
    rcases(hd0.ext hx hw0).1 with ⟨h1,h2,h3⟩ | ⟨n,off,cp,h1,h2⟩
    ·rw[h1,h2];rfl
    ·rw[h1];rfl
   rw[Zs]
   by_cases hil:(i:Int)<ws.length
   ·have h10:¬(i:Int)<10:=by omega
    simp[B.Kt,go_sem,↓Qy,hvc,e1,e3,e4,h1,hil,h10]
    exact⟨hx,hg⟩
   ·simp[B.Kt,go_sem,↓Qy,hvc,e1,e3,e4,h1,hil]
    exact⟨hx,hg⟩
 | succ m ih=>
   intro i v e s1 hi hx hg h1 hb1 e1 e3 e4
   obtain⟨w,hwi⟩:∃w,ws[i]? =some w:=⟨_,List.getElem?_eq_getElem (by omega)⟩
   have hd:=hd0.ext hx hw0
   obtain⟨n,off,cp,ob,rfl,g1,g2⟩:=hd.acc hwi
   have hok:=hd.2 w (List.mem_of_getElem? hwi)
   obtain⟨I,hI⟩:∃I:Int,(i:Int)=I:=⟨_,rfl⟩
   rw[hI]at e4
   have hil:I<ws.length:=by omega
   have h10:I<10:=by omega
   have hI0:0≤I:=by omega
   have hIn:I.toNat=i:=by omega
   have lb1:=hx.wf.lt _ _ h1
   obtain⟨hp,hhp⟩:∃hp,Fk Fy (ws.take i)=hp:=⟨_,rfl⟩
   have hL:∀c∈hp,ceL c≤45:=by rw[←hhp];exact Zod _ _ Zqp
   have hlen:hp.length≤20:=by rw[←hhp,Zf2,List.length_take];show 10+_≤20;omega
   have hsn:Fk Fy (ws.take (i+1))=hp++[Il hp w]:=by rw[List.take_add_one,hwi,←hhp];exact Zju _ _ _
   rw[hhp]at hg
   rw[Zs]
   simp (disch:=omega) [B.Kt,go_sem,e1,e3,e4,h1,hil,h10,hI0,hIn,g1,g2]
   refine(Zpv H.Q8 hx.wf (hwd.ext hx hw0) hg.hp (by omega) (fun c hc=>by have:=hL c hc;omega) hok).mono ?_
   rintro r q1 ⟨xq,row,rfl,hc,hnew⟩
   obtain⟨pa,pb,pc,hrow,_⟩:=id hc
   have y1:=hx.trans xq
   have hrs:=hc.sc
   have xb:Ext q1 ⟨(q1.nx,.cells 486 false row)::q1.h,q1.nx+1⟩:=(Ext.refl y1.wf).Zf (Nat.lt_succ_self _)
   have yb:=y1.trans xb
   have hgb:=hg.ext (xq.trans xb) hx.wf
   have hap:=hgb.push yb.nx yb.wf (x:= .slice q1.nx 0 1 (.known 1)) (row:=row) (.inr ⟨_,_,_,rfl,Lu (ty:=486) (l:=false) (by simp[Zg]) (by rw[hrow];rfl)⟩) (hc.ext xb y1.wf) (fun k hk hv=>by
    have h2:=hnew k hk
    obtain⟨cs,g5,_⟩:=hg
    have:=g5.lt hx.wf k hv
    omega) (by omega)
   have gsc:=hg.sc
   have hA:Dj (AO.ev [(25,AV.agg row)]) B.zCe [(0,7,.t 25)]=some row:=by rw[hrow];rfl
   rw[hrow]at hrs hap⊢
   simp (disch:=omega) [go_sem,B.zCe,gsc]
   refine hap.mono ?_
   rintro v2 s2 ⟨o2,f2⟩
   have yb':=yb
   rw[hrow]at yb'
   have y2:=yb'.Ma f2 hg.ge
   have hb1q:Zh ((q1.nx,Qb.cells 486 false row)::q1.h) b1=some (.cells 430 true [.slice n off ws.length cp,vo,vd]):=by
    have:=(xq.trans xb).Zd b1 lb1
    simp only at this
    rw[this,h1]
   have hb1s:=f2.get (by rw[←hrow];exact yb.wf) (by rw[←hrow];exact hb1q) hb1
   have hb1v:b1∉v2.nms:=by
    obtain⟨cs,g5,_⟩:=id o2
    exact g5.apart hb1s
   simp (disch:=omega) [go_sem,o2.sc]
   refine ih (i+1) v2 _ s2 (by omega) y2 (by rw[hsn];exact o2) hb1s hb1v (by simp[go_sem]) (by simp[go_sem]) (by simp[go_sem];omega)
end Go.Ev

/- A closed call run by the kernel: what it answers, and that what was there stays. -/
namespace Go.Ev
open Go
variable {T : Tab}
end Go.Ev

/- Names changed: values, operations on the frame. -/
namespace Go.Ev
open Go
structure Mv where
 a:Nat
 g:Nat→Nat
 N:Nat
 P:Nat→Prop
def Mv.f (ρ:Mv) (n:Nat):Nat:=if n<ρ.a then ρ.g n else n - ρ.a+ρ.N
structure Mv.ok (ρ:Mv):Prop where
 inj:∀n m,n<ρ.a→m<ρ.a→ρ.g n=ρ.g m→n=m
 lt:∀n,n<ρ.a→ρ.g n<ρ.N
 fix:∀n,n<9→ρ.f n=n
 P:∀n,ρ.P n→n<ρ.a
theorem Mv.ok.Zv1 {ρ:Mv} (h:ρ.ok) {n m:Nat} (e:ρ.f n=ρ.f m):n=m:=by
 unfold Mv.f at e
 split at e <;> split at e
 ·exact h.inj _ _ (by assumption) (by assumption) e
 ·have:=h.lt n (by assumption);omega
 ·have:=h.lt m (by assumption);omega
 ·omega
theorem Mv.ok.mono {ρ:Mv} (h:ρ.ok) {n m:Nat} (hm:ρ.a≤m):ρ.f n<ρ.f m↔n<m:=by
 unfold Mv.f
 rw[if_neg (show¬m<ρ.a by omega)]
 split
 ·have:=h.lt n (by assumption);omega
 ·omega
theorem Mv.add {ρ:Mv} {m k:Nat} (hm:ρ.a≤m):ρ.f (m+k)=ρ.f m+k:=by
 unfold Mv.f
 rw[if_neg (by omega),if_neg (by omega)]
 omega
mutual
def AV.mv (f:Nat→Nat):AV→AV
 | .ptr n o=> .ptr (f n) o
 | .slice n o l c=> .slice (f n) o l c
 | .map n=> .map (f n)
 | .yield l=> .yield (f l)
 | .fn k a b=> .fn k (AV.mvs f a) (AV.mvs f b)
 | .iface t v=> .iface t (AV.mv f v)
 | .agg a=> .agg (AV.mvs f a)
 | .tuple a=> .tuple (AV.mvs f a)
 | .bot=> .bot
 | .bool b=> .bool b
 | .int k n=> .int k n
 | .str s=> .str s
 | .J8=> .J8
 | .Zc=> .Zc
 | .Vi=> .Vi
 | .Jx=> .Jx
 | .K6=> .K6
def AV.mvs (f:Nat→Nat):List AV→List AV
 | []=>[]
 | v::r=>AV.mv f v::AV.mvs f r
end
theorem W2 (f:Nat→Nat):∀l,AV.mvs f l=l.map (AV.mv f)
 | []=>by simp[AV.mvs]
 | v::r=>by simp[AV.mvs,W2 f r]
mutual
def AV.fr:AV→Bool
 | .ptr _ _=>false
 | .slice _ _ _ _=>false
 | .map _=>false
 | .yield _=>false
 | .fn _ a b=>AV.frs a && AV.frs b
 | .iface _ v=>AV.fr v
 | .agg a=>AV.frs a
 | .tuple a=>AV.frs a
 | .bot=>true
 | .bool _=>true
 | .int _ _=>true
 | .str _=>true
 | .J8=>true
 | .Zc=>true
 | .Vi=>true
 | .Jx=>true
 | .K6=>true
def AV.frs:List AV→Bool
 | []=>true
 | v::r=>AV.fr v && AV.frs r
end
mutual
theorem Zrg (f:Nat→Nat):∀v:AV,v.fr=true→v.mv f=v
 | .ptr _ _,h=>by simp[AV.fr]at h
 | .slice _ _ _ _,h=>by simp[AV.fr]at h
 | .map _,h=>by simp[AV.fr]at h
 | .yield _,h=>by simp[AV.fr]at h
 | .fn _ a b,h=>by
   simp only[AV.fr,Bool.and_eq_true]at h
   simp only[AV.mv,Zgd f a h.1,Zgd f b h.2]
 | .iface _ v,h=>by
   simp only[AV.fr]at h
   simp only[AV.mv,Zrg f v h]
 | .agg a,h=>by
   simp only[AV.fr]at h
   simp only[AV.mv,Zgd f a h]
 | .tuple a,h=>by
   simp only[AV.fr]at h
   simp only[AV.mv,Zgd f a h]
 | .bot,_ | .bool _,_ | .int _ _,_ | .str _,_ | .J8,_ | .Zc,_ | .Vi,_ | .Jx,_ | .K6,_=>by simp only[AV.mv]
theorem Zgd (f:Nat→Nat):∀l:List AV,AV.frs l=true→AV.mvs f l=l
 | [],_=>by simp only[AV.mvs]
 | v::r,h=>by
   simp only[AV.frs,Bool.and_eq_true]at h
   simp only[AV.mvs,Zrg f v h.1,Zgd f r h.2]
end
theorem Zo5 {f:Nat→Nat} {l:List AV} (h:AV.frs l=true):l.map (AV.mv f)=l:=by rw[←W2];exact Zgd f l h
section
variable {f : Nat → Nat}
theorem Zfc (v:AV):Yg (v.mv f)=(Yg v).map (AV.mv f):=by
 cases v <;> simp[AV.mv,Yg,W2]
theorem Zacq (v:AV):(v.mv f).nb=v.nb:=by cases v <;> simp[AV.mv,AV.nb]
theorem Zahi (v:AV):(v.mv f).sc=v.sc:=by cases v <;> simp[AV.mv,AV.sc]
theorem Ziu (l:List AV):(l.map (AV.mv f)).all AV.sc=l.all AV.sc:=by
 induction l with
 | nil=>rfl
 | cons v r ih=>simp only[List.map_cons,List.all_cons,Zahi,ih]
theorem Zar:∀(vs cs:List AV) (o:Nat),Qd (cs.map (AV.mv f)) o (vs.map (AV.mv f))=(Qd cs o vs).map (AV.mv f)
 | [],cs,o=>by simp[Qd]
 | v::vs,cs,o=>by
   simp only[List.map_cons,Qd]
   rw[←List.map_set,Zar vs]
theorem Zis {ev ev':AO→AV}:∀(ps:List (Nat×Nat×AO)) (cs:List AV),(∀p∈ps,ev' p.2.2=(ev p.2.2).mv f)→Dj ev' (cs.map (AV.mv f)) ps=(Dj ev cs ps).map (List.map (AV.mv f))
 | [],cs,_=>by simp[Dj]
 | (off,sz,x)::r,cs,h=>by
   have hx:=h _ List.mem_cons_self
   simp only at hx
   simp only[Dj,hx,Zfc,Zacq,List.length_map]
   split
   ·rw[Zar,Zis r _ (fun p hp=>h p (List.mem_cons_of_mem _ hp))]
   ·rfl
theorem Zp3 (cs:List AV) (off:Nat) (sz:Option Nat):apart (cs.map (AV.mv f)) off sz=(apart cs off sz).map (AV.mv f):=by
 cases sz with
 | none=>simp[apart]
 | some n=>
   simp only[apart,List.length_map]
   split
   ·simp[AV.mv,W2,List.map_drop,List.map_take]
   ·rfl
theorem Zah (v:AV) (y:Nat):Yc (v.mv f) y=Yc v y:=by cases v <;> simp[AV.mv,Yc]
theorem Zsx (d:Nat) (v:Option AV) (y:Nat):bnd d (v.map (AV.mv f)) y=bnd d v y:=by cases v <;> simp[bnd,Zah]
theorem Zcd (len top:Nat) (lo hi mx:Option AV):Kw len top (lo.map (AV.mv f)) (hi.map (AV.mv f)) (mx.map (AV.mv f))=Kw len top lo hi mx:=by
 cases mx with
 | none=>
   simp only[Kw,Option.map_none,Zsx]
 | some v=>
   cases hi with
   | none=>simp[Kw,Zsx,Zah]
   | some u=>
     simp only[Kw,Option.map_some,Zsx,Zah]
     cases Yc v top with
     | none=>rfl
     | some m=>simp only[Zah]
theorem Zp4 (es n off len:Nat) (cap:Cap) (lo hi mx:Option AV):X1 es (f n) off len cap (lo.map (AV.mv f)) (hi.map (AV.mv f)) (mx.map (AV.mv f))=(X1 es n off len cap lo hi mx).map (AV.mv f):=by
 simp only[X1,Zcd]
 cases Kw len (X6 len cap) lo hi mx with
 | none=>rfl
 | some p=>
   obtain⟨l,h,m⟩:=p
   simp only
   cases X0 cap l m with
   | known c=>cases c <;> simp[AV.mv]
   | full=>simp[AV.mv]
   | unk=>
     simp only
     split <;> simp[AV.mv]
theorem Zxp (s:List UInt8) (lo hi:Option AV):C5 s (lo.map (AV.mv f)) (hi.map (AV.mv f))=(C5 s lo hi).map (AV.mv f):=by
 have:=Zcd (f:=f) s.length s.length lo hi none
 simp only[Option.map_none]at this
 simp only[C5,this]
 split <;> simp[AV.mv]
theorem C7 (k:Kd) (a b:AV):Qo k (a.mv f) (b.mv f)=Qo k a b:=by
 cases k <;> cases a <;> cases b <;> simp[AV.mv,Qo]
theorem Zgt:∀(ks:List Kd) (a b:List AV),Qu ks (a.map (AV.mv f)) (b.map (AV.mv f))=Qu ks a b
 | [],[],[]=>by simp[Qu]
 | k::ks,a::x,b::y=>by
   simp only[List.map_cons,Qu,C7,List.length_map,Zgt ks x y]
 | [],_::_,_=>by simp[Qu]
 | [],[],_::_=>by simp[Qu]
 | _::_,[],_=>by simp[Qu]
 | _::_,_::_,[]=>by simp[Qu]
theorem Zyl (hf:∀n m,f n=f m→n=m) (k:Nat) (a b:AV):Sg k (a.mv f) (b.mv f)=Sg k a b:=by
 have hi:∀n m,(f n=f m)=(n=m):=fun n m=>propext ⟨hf n m,fun h=>by rw[h]⟩
 rcases k with _ | _ | _ | _ | k <;> cases a <;> cases b <;> first | rfl | simp[Sg,AV.mv,hi]
end
end Go.Ev

/- Names changed: operations. -/
namespace Go.Ev
open Go
def AO.fr:AO→Bool
 | .t _=>true
 | .k v=>v.fr
def oAO:Option AO→Bool
 | none=>true
 | some x=>x.fr
def PO.fr:PO→Bool
 | .Za x=>x.fr
 | .pick c a b=>c.fr && (a.fr && b.fr)
 | .bin _ x y=>x.fr && y.fr
 | .un _ x=>x.fr
 | .conv _ x=>x.fr
 | .Pz _ a b=>a.all AO.fr && b.all AO.fr
 | .build z ps=>AV.frs z && ps.all fun p=>p.2.2.fr
 | .Zi _ x=>x.fr
 | .field _ _ x=>x.fr
 | .Nq _ _ x i=>x.fr && i.fr
 | .Zu _ x i=>x.fr && i.fr
 | .Zhv _ _ _ x i=>x.fr && i.fr
 | .J7 x i=>x.fr && i.fr
 | .B5 x lo hi=>x.fr && (oAO lo && oAO hi)
 | .Zia _ x lo hi mx=>x.fr && (oAO lo && (oAO hi && oAO mx))
 | .Zmf _ _ x lo hi mx=>x.fr && (oAO lo && (oAO hi && oAO mx))
 | .Zq _ x=>x.fr
 | .lenOf _ x=>x.fr
 | .capOf x=>x.fr
 | .Bl _ xs=>xs.all AO.fr
 | .Xd x=>x.fr
 | .iface _ x=>x.fr
 | .Zmw v=>v.fr
 | .same x=>x.fr
 | .Zc2 x=>x.fr
 | .r2s x=>x.fr
 | .eqA _ _ x y=>x.fr && y.fr
 | .eqB _ x y=>x.fr && y.fr
 | .eqN _ _ x y=>x.fr && y.fr
 | .stuck=>true
def mvE (f:Nat→Nat) (e:Env):Env:=e.map fun p=>(p.1,p.2.mv f)
section
variable {f : Nat → Nat} {e : Env}
theorem Nv:∀(e:Env) (t:Nat),Zl (mvE f e) t=(Zl e t).mv f
 | [],t=>by simp[mvE,Zl,AV.mv]
 | (m,v)::e,t=>by
   have ih:=Nv e t
   simp only[mvE,List.map_cons,Zl]at ih⊢
   split
   ·rfl
   ·exact ih
theorem Zrf (m:Nat) (v:AV) (e:Env):mvE f ((m,v)::e)=(m,v.mv f)::mvE f e:=rfl
theorem Zf9 (l:List Nat) (e:Env):X3 l (mvE f e)=mvE f (X3 l e):=by
 simp only[X3,mvE,List.map_map]
 apply List.map_congr_left
 intro t _
 have:=Nv (f:=f) e t
 simp only[mvE]at this
 simp[this]
theorem Q3 {x:AO} (h:x.fr=true):AO.ev (mvE f e) x=(AO.ev e x).mv f:=by
 cases x with
 | t n=>exact Nv e n
 | k v=>exact(Zrg f v h).symm
theorem Zn1 {xs:List AO} (h:xs.all AO.fr=true):xs.map (AO.ev (mvE f e))=(xs.map (AO.ev e)).map (AV.mv f):=by
 rw[List.map_map]
 apply List.map_congr_left
 intro x hx
 exact Q3 (List.all_eq_true.1 h x hx)
theorem T4 {x:Option AO} (h:oAO x=true):x.map (AO.ev (mvE f e))=(x.map (AO.ev e)).map (AV.mv f):=by
 cases x with
 | none=>rfl
 | some x=>simp[Q3 (show x.fr=true from h)]
theorem Zij (k:IntKind) (n:Int):(Sx k n).map (AV.mv f)=Sx k n:=by rw[Ym];simp[AV.mv]
theorem Zaar (op:BinOp) (k:IntKind) (a b:Int):(F7 op k a b).map (AV.mv f)=F7 op k a b:=by
 unfold F7
 split <;> try exact Zij _ _
 all_goals
  first
  | (split
     ·rfl
     ·exact Zij _ _)
  | simp[AV.mv]
theorem Zabq (op:BinOp) (a b:List UInt8):(Zr4 op a b).map (AV.mv f)=Zr4 op a b:=by
 unfold Zr4
 split
 ·split <;> simp[AV.mv]
 all_goals simp[AV.mv]
theorem Zp1 (op:BinOp) (k j:IntKind) (a b:Int):(Uh op (.int k a) (.int j b)).map (AV.mv f)=Uh op (.int k a) (.int j b):=by
 simp only[Uh]
 split
 ·split
  ·rfl
  ·exact Zij _ _
 ·split
  ·rfl
  ·exact Zij _ _
 ·split
  ·exact Zaar _ _ _ _
  ·rfl
theorem Zzx (op:BinOp) (x y:AV):Uh op (x.mv f) (y.mv f)=(Uh op x y).map (AV.mv f):=by
 cases x with
 | int k a=>
   cases y with
   | int j b=>simp only[AV.mv];exact(Zp1 op k j a b).symm
   | _=>simp[AV.mv,Uh]
 | str a=>
   cases y with
   | str b=>simp only[AV.mv,Uh];exact(Zabq op a b).symm
   | _=>simp[AV.mv,Uh]
 | _=>cases y <;> simp[AV.mv,Uh]
theorem Zadf (op:UnOp) (x:AV):aun op (x.mv f)=(aun op x).map (AV.mv f):=by
 cases op <;> cases x <;> simp[AV.mv,aun,Ym]
theorem Zst (mx:Bool) (x y:AV):O4 mx (x.mv f) (y.mv f)=(O4 mx x y).map (AV.mv f):=by
 cases x <;> cases y <;> simp[AV.mv,O4]
theorem Zp2 (mx:Bool):∀(l:List AV) (x:AV),Zde mx (x.mv f) (l.map (AV.mv f))=(Zde mx x l).map (AV.mv f)
 | [],x=>by simp[Zde]
 | y::r,x=>by
   simp only[List.map_cons,Zde,Zst]
   cases O4 mx x y with
   | none=>rfl
   | some z=>simp only[Option.map_some];exact Zp2 mx r z
theorem Zafv (hf:∀n m,f n=f m→n=m) {o:PO} (h:o.fr=true):PO.run (AO.ev (mvE f e)) o=(PO.run (AO.ev e) o).map (AV.mv f):=by
 cases o with
 | Za x=>simp[PO.run,Q3 h]
 | pick c a b=>
   simp only[PO.fr,Bool.and_eq_true]at h
   obtain⟨h1,h2,h3⟩:=h
   simp only[PO.run,Q3 h1,Q3 h2,Q3 h3]
   cases AO.ev e c with
   | bool v=>cases v <;> simp[AV.mv]
   | _=>simp[AV.mv]
 | bin op x y=>
   simp only[PO.fr,Bool.and_eq_true]at h
   simp only[PO.run,Q3 h.1,Q3 h.2,Zzx]
 | un op x=>simp only[PO.run,Q3 h,Zadf]
 | conv k x=>
   simp only[PO.run,Q3 h]
   cases AO.ev e x <;> simp[AV.mv,Ym]
 | Pz k a b=>
   simp only[PO.fr,Bool.and_eq_true]at h
   simp[PO.run,Zn1 h.1,Zn1 h.2,AV.mv,W2]
 | build z ps=>
   simp only[PO.fr,Bool.and_eq_true]at h
   have hz:=Zo5 (f:=f) h.1
   have:=Zis (f:=f) (ev:=AO.ev e) (ev':=AO.ev (mvE f e)) ps z (fun p hp=>Q3 (List.all_eq_true.1 h.2 p hp))
   rw[hz]at this
   simp only[PO.run,this,Option.map_map]
   congr 1
   funext l
   simp[AV.mv,W2]
 | Zi off x=>
   simp only[PO.run,Q3 (x:=x) h]
   cases AO.ev e x <;> simp[AV.mv]
 | field off sz x=>
   simp only[PO.run,Q3 (x:=x) h]
   cases AO.ev e x <;> simp[AV.mv,W2,Zp3]
 | Nq len es x i=>
   simp only[PO.fr,Bool.and_eq_true]at h
   simp only[PO.run,Q3 h.1,Q3 h.2]
   cases AO.ev e x with
   | ptr n o=>
     cases AO.ev e i with
     | int k j=>simp only[AV.mv];split <;> simp[AV.mv]
     | _=>simp[AV.mv]
   | _=>simp[AV.mv]
 | Zu es x i=>
   simp only[PO.fr,Bool.and_eq_true]at h
   simp only[PO.run,Q3 h.1,Q3 h.2]
   cases AO.ev e x with
   | slice n o l c=>
     cases AO.ev e i with
     | int k j=>simp only[AV.mv];split <;> simp[AV.mv]
     | _=>simp[AV.mv]
   | _=>simp[AV.mv]
 | Zhv len es sz x i=>
   simp only[PO.fr,Bool.and_eq_true]at h
   simp only[PO.run,Q3 h.1,Q3 h.2]
   cases AO.ev e x with
   | agg cs=>
     cases AO.ev e i with
     | int k j=>simp only[AV.mv];split <;> simp[W2,Zp3]
     | _=>simp[AV.mv]
   | _=>simp[AV.mv]
 | J7 x i=>
   simp only[PO.fr,Bool.and_eq_true]at h
   simp only[PO.run,Q3 h.1,Q3 h.2]
   cases AO.ev e x with
   | str s=>
     cases AO.ev e i with
     | int k j=>
       simp only[AV.mv]
       split
       ·cases s[j.toNat]? <;> simp[AV.mv]
       ·rfl
     | _=>simp[AV.mv]
   | _=>simp[AV.mv]
 | B5 x lo hi=>
   simp only[PO.fr,Bool.and_eq_true]at h
   simp only[PO.run,Q3 h.1,T4 h.2.1,T4 h.2.2]
   cases AO.ev e x <;> simp only[AV.mv,Zxp,Option.map_none]
 | Zia es x lo hi mx=>
   simp only[PO.fr,Bool.and_eq_true]at h
   simp only[PO.run,Q3 h.1,T4 h.2.1,T4 h.2.2.1,T4 h.2.2.2]
   cases AO.ev e x with
   | slice n o l c=>simp only[AV.mv,Zp4]
   | Zc=>
     simp only[AV.mv,X1,Zcd]
     cases Kw 0 (X6 0 (.known 0)) (lo.map (AO.ev e)) (hi.map (AO.ev e)) (mx.map (AO.ev e))with
     | none=>rfl
     | some p=>
       obtain⟨l,u,m⟩:=p
       simp only
       cases X0 (.known 0) l m with
       | known c=>cases c <;> simp[AV.mv]
       | full=>simp[AV.mv]
       | unk=>
         simp only
         by_cases hh:l<u∨l=0
         ·simp only[if_pos hh];simp[AV.mv]
         ·simp only[if_neg hh];simp[AV.mv]
   | _=>simp[AV.mv]
 | Zmf n es x lo hi mx=>
   simp only[PO.fr,Bool.and_eq_true]at h
   simp only[PO.run,Q3 h.1,T4 h.2.1,T4 h.2.2.1,T4 h.2.2.2]
   cases AO.ev e x <;> simp only[AV.mv,Zp4,Option.map_none]
 | Zq i x=>
   simp only[PO.run,Q3 (x:=x) h]
   cases AO.ev e x <;> simp[AV.mv,W2]
 | lenOf str x=>
   simp only[PO.run,Q3 (x:=x) h]
   cases AO.ev e x <;> simp only[AV.mv] <;> first | rfl | (split <;> simp[AV.mv])
 | capOf x=>
   simp only[PO.run,Q3 (x:=x) h]
   cases AO.ev e x with
   | slice n o l c=>cases c <;> simp[AV.mv]
   | _=>simp[AV.mv]
 | Bl mx xs=>
   simp only[PO.run,Zn1 (xs:=xs) h]
   cases xs.map (AO.ev e)with
   | nil=>rfl
   | cons x r=>simp only[List.map_cons,Zp2]
 | Xd x=>
   simp only[PO.run,Q3 (x:=x) h]
   cases AO.ev e x <;> simp[AV.mv]
 | iface t x=>simp[PO.run,Q3 (x:=x) h,AV.mv]
 | Zmw v=>simp[PO.run,Zrg f v h]
 | same x=>
   simp only[PO.run,Q3 (x:=x) h]
   cases AO.ev e x <;> simp[AV.mv]
 | Zc2 x=>
   simp only[PO.run,Q3 (x:=x) h]
   cases AO.ev e x with
   | slice n o l c=>simp only[AV.mv];split <;> simp[AV.mv]
   | _=>simp[AV.mv]
 | r2s x=>
   simp only[PO.run,Q3 (x:=x) h]
   cases AO.ev e x <;> simp[AV.mv]
 | eqA neg ks x y=>
   simp only[PO.fr,Bool.and_eq_true]at h
   simp only[PO.run,Q3 h.1,Q3 h.2]
   cases AO.ev e x with
   | agg a=>
     cases AO.ev e y with
     | agg b=>
       simp only[AV.mv,W2,Zgt]
       cases Qu ks a b <;> simp[AV.mv]
     | _=>simp[AV.mv]
   | _=>simp[AV.mv]
 | eqB neg x y=>
   simp only[PO.fr,Bool.and_eq_true]at h
   simp only[PO.run,Q3 h.1,Q3 h.2]
   cases AO.ev e x with
   | bool a=>
     cases AO.ev e y <;> simp[AV.mv]
   | _=>simp[AV.mv]
 | eqN neg k x y=>
   simp only[PO.fr,Bool.and_eq_true]at h
   simp only[PO.run,Q3 h.1,Q3 h.2,Zyl hf]
   cases Sg k (AO.ev e x) (AO.ev e y) <;> simp[AV.mv]
 | stuck=>rfl
end
end Go.Ev

/- Names changed: objects, states that agree, reads, new blocks, writes. -/
namespace Go.Ev
open Go
def RO.fr:RO→Bool
 | .load _ x=>x.fr
 | .b2s x=>x.fr
 | .lookup _ z _ m k=>z.fr && (m.fr && k.fr)
 | .Ztt m=>m.fr
 | .toU x=>x.fr
 | .ofU _ _ x=>x.fr
 | .Sa g _ _ i=>decide (g<9) && i.fr
def NO.fr:NO→Bool
 | .alloc _ _ z=>AV.frs z
 | .box _ _ x=>x.fr
 | .Qe _ _ z ps=>AV.frs z && ps.all fun p=>p.2.2.fr
 | .Zre _ _ _ z l c=>AV.frs z && (l.fr && c.fr)
 | .mkMap=>true
 | .s2b _ x=>x.fr
 | .A3 x=>x.fr
def WO.fr:WO→Bool
 | .store _ a x=>a.fr && x.fr
 | .append _ _ _ _ s x=>s.fr && x.fr
 | .copy _ d s=>d.fr && s.fr
 | .Zbp _ m k v=>m.fr && (k.fr && v.fr)
 | .call f xs=>f.fr && xs.all AO.fr
 | .Zmh _ p l=>p.fr && l.fr
 | .Sf x=>x.fr
def MO.fr:MO→Bool
 | .p o=>o.fr
 | .r o=>o.fr
 | .n o=>o.fr
 | .w o=>o.fr
def RI.fr:RI→Bool
 | .op _ o=>o.op.fr
 | .re _=>true
def Zv.fr:Zv→Bool
 | .skip=>true
 | .Ze l=>l.all fun i=>i.op.fr
 | .Kv l=>l.all RI.fr
 | .seq a b=>a.fr && b.fr
 | .cond c a b=>c.fr && (a.fr && b.fr)
 | .block _ b=>b.fr
 | .loop b=>b.fr
 | .scope b=>b.fr
 | .rangeFunc f _ a b=>f.fr && (a.fr && b.fr)
 | .exit _=>true
 | .ret=>true
 | .Zd _=>true
 | .rangeMap pre m _ _ _ _ post _ _ _ b=>(pre.all fun i=>i.op.fr) && (m.fr && ((post.all fun i=>i.op.fr) && b.fr))
 | .stuck=>true
def Qb.mv (f:Nat→Nat):Qb→Qb
 | .cells ty l cs=> .cells ty l (cs.map (AV.mv f))
 | .buf ty es cs=> .buf ty es (cs.map (AV.mv f))
 | .ro cs=> .ro (cs.map (AV.mv f))
 | .map es=> .map (es.map fun p=>(p.1.mv f,p.2.mv f))
 | .iter s p=> .iter s p
 | .Wz g cs=> .Wz g (cs.map (AV.mv f))
 | .loop x e ps a b=> .loop x (mvE f e) ps a b
def Qb.frC:Qb→Bool
 | .loop _ _ _ a b=>a.fr && b.fr
 | _=>true
theorem Rp:∀{h:Heap} {n m:Nat} {o:Qb},Zh (Z7 h n o) m=if n=m then(Zh h n).map (fun _=>o)else Zh h m
 | [],n,m,o=>by simp[Z7,Zh]
 | (k,p)::h,n,m,o=>by
   simp only[Z7]
   by_cases e:k=n
   ·subst e
    simp only[if_true,Zh]
    by_cases e2:k=m
    ·subst e2;simp
    ·simp[e2]
   ·simp only[if_neg e,Zh]
    by_cases e2:k=m
    ·subst e2
     rw[if_pos rfl,if_pos rfl,if_neg (fun h=>e h.symm)]
    ·rw[if_neg e2,if_neg e2,Rp]
structure Sim (ρ:Mv) (F:Nat→Option Qb) (s S:St):Prop where
 na:ρ.a≤s.nx
 nx:S.nx=ρ.f s.nx
 w:s.Wf
 W:S.Wf
 obj:∀n,¬ρ.P n→Zh S.h (ρ.f n)=(Zh s.h n).map (Qb.mv ρ.f)
 abs:∀n,ρ.P n→Zh s.h n=none
 out:∀m,(∀n,ρ.f n=m→ρ.P n)→Zh S.h m=F m
 frC:∀n o,Zh s.h n=some o→o.frC=true
structure Gr (s s':St):Prop where
 nx:s.nx≤s'.nx
 no:∀n,n<s.nx→Zh s.h n=none→Zh s'.h n=none
theorem Gr.refl (s:St):Gr s s:=⟨Nat.le_refl _,fun _ _ h=>h⟩
theorem Gr.trans {a b c:St} (x:Gr a b) (y:Gr b c):Gr a c:=⟨Nat.le_trans x.nx y.nx,fun n h h'=>y.no n (Nat.lt_of_lt_of_le h x.nx) (x.no n h h')⟩
theorem Gr.set {s:St} {n:Nat} {o:Qb}:Gr s ⟨Z7 s.h n o,s.nx⟩:=⟨Nat.le_refl _,fun m h h'=>by
 rw[Rp]
 split
 ·rename_i e;subst e;rw[h'];rfl
 ·exact h'⟩
theorem Gr.del {s:St} {n:Nat}:Gr s ⟨Ub s.h n,s.nx⟩:=⟨Nat.le_refl _,fun m h h'=>by
 rw[Kj]
 split
 ·rfl
 ·exact h'⟩
theorem Gr.cons {s:St} {o:Qb}:Gr s ⟨(s.nx,o)::s.h,s.nx+1⟩:=⟨Nat.le_succ _,fun m h h'=>by
 simp only[Zh]
 rw[if_neg (by omega)]
 exact h'⟩
theorem Gr.drop {s:St} {c:Nat}:Gr s ⟨Zb c s.h,s.nx⟩:=⟨Nat.le_refl _,fun m h h'=>by
 simp only[Us,Yl]
 split
 ·rfl
 ·exact h'⟩
section
variable {ρ : Mv} {F : Nat → Option Qb} {s S : St} {h H : Heap} {m M : Nat}
theorem Zl7 {h:Heap} {n:Nat} (hd:(h.map (·.1)).Nodup) (hn:Zh h n=none):n∉h.map (·.1):=fun hm=>by
 obtain⟨⟨k,p⟩,hk,e⟩:=List.mem_map.1 hm
 simp only at e
 subst e
 rw[I8 hd hk]at hn
 cases hn
theorem Zvf {n:Nat} {o:Qb} (w:St.Wf ⟨h,m⟩) (hn:Zh h n=none) (hm:n<m):St.Wf ⟨(n,o)::h,m⟩:=by
 refine⟨fun k p hp=> ?_,?_⟩
 ·simp only[Zh]at hp
  split at hp
  ·rename_i e;subst e;exact hm
  ·exact w.lt k p hp
 ·simp only[List.map_cons,List.nodup_cons]
  exact⟨Zl7 w.nd hn,w.nd⟩
theorem Zac2 {k:Nat} (w:St.Wf ⟨h,m⟩) (hk:m≤k):St.Wf ⟨h,k⟩:=⟨fun n p hp=>Nat.lt_of_lt_of_le (w.lt n p hp) hk,w.nd⟩
theorem wf_set {n:Nat} {o:Qb} (w:St.Wf ⟨h,m⟩):St.Wf ⟨Z7 h n o,m⟩:=by
 refine⟨fun k p hp=> ?_,by show ((Z7 h n o).map _).Nodup;rw[Pp];exact w.nd⟩
 simp only[Rp]at hp
 split at hp
 ·rename_i e
  subst e
  cases hg:Zh h n with
  | none=>rw[hg]at hp;cases hp
  | some q=>exact w.lt n q hg
 ·exact w.lt k p hp
theorem Sim.get (x:Sim ρ F s S) {n:Nat} {o:Qb} (hg:Zh s.h n=some o):Zh S.h (ρ.f n)=some (o.mv ρ.f):=by
 rw[x.obj n (fun hp=>by rw[x.abs n hp]at hg;cases hg),hg];rfl
theorem Sim.cons (x:Sim ρ F ⟨h,m⟩ ⟨H,M⟩) (hρ:ρ.ok) {n:Nat} {o:Qb} (hn:Zh h n=none) (ha:ρ.a≤n) (hm:n<m) (ho:o.frC=true):Sim ρ F ⟨(n,o)::h,m⟩ ⟨(ρ.f n,o.mv ρ.f)::H,M⟩:=by
 have hP:¬ρ.P n:=fun h=>by have:=hρ.P n h;omega
 have hN:Zh H (ρ.f n)=none:=by
  have:=x.obj n hP
  simp only at this
  rw[this,hn];rfl
 have hM:ρ.f n<M:=by
  have:=x.nx
  simp only at this
  rw[this]
  exact(hρ.mono x.na).2 hm
 refine⟨x.na,x.nx,Zvf x.w hn hm,Zvf x.W hN hM,fun k hk=> ?_,fun k hk=> ?_,fun k hk=> ?_,fun k p hp=> ?_⟩
 ·simp only[Zh]
  by_cases e:n=k
  ·subst e;rw[if_pos rfl,if_pos rfl];rfl
  ·rw[if_neg e,if_neg (fun h=>e (hρ.Zv1 h))]
   exact x.obj k hk
 ·simp only[Zh]
  rw[if_neg (show¬n=k from fun e=>hP (by rw[e];exact hk))]
  exact x.abs k hk
 ·simp only[Zh]
  rw[if_neg (fun e=>hP (hk n e))]
  exact x.out k hk
 ·simp only[Zh]at hp
  split at hp
  ·cases hp;exact ho
  ·exact x.frC k p hp
theorem Sim.up (x:Sim ρ F ⟨h,m⟩ ⟨H,M⟩) (k:Nat):Sim ρ F ⟨h,m+k⟩ ⟨H,M+k⟩:=
 ⟨Nat.le_trans x.na (Nat.le_add_right _ _),by
   have:=x.nx
   simp only at this⊢
   rw[this,Mv.add x.na],Zac2 x.w (Nat.le_add_right _ _),Zac2 x.W (Nat.le_add_right _ _),x.obj,x.abs,x.out,x.frC⟩
theorem Sim.new (x:Sim ρ F ⟨h,m⟩ ⟨H,M⟩) (hρ:ρ.ok) {o:Qb} (ho:o.frC=true):Sim ρ F ⟨(m,o)::h,m+1⟩ ⟨(M,o.mv ρ.f)::H,M+1⟩:=by
 have hm:Zh h m=none:=by
  cases hg:Zh h m with
  | none=>rfl
  | some p=>exact absurd (x.w.lt m p hg) (Nat.lt_irrefl _)
 have hM:=x.nx
 simp only at hM
 have:=(x.up 1).cons hρ (n:=m) (o:=o) hm x.na (Nat.lt_succ_self m) ho
 rw[←hM]at this
 exact this
theorem Sim.set (x:Sim ρ F ⟨h,m⟩ ⟨H,M⟩) (hρ:ρ.ok) {n:Nat} {o q:Qb} (hq:Zh h n=some q) (ho:o.frC=true):Sim ρ F ⟨Z7 h n o,m⟩ ⟨Z7 H (ρ.f n) (o.mv ρ.f),M⟩:=by
 have hP:¬ρ.P n:=fun hp=>by
  have:=x.abs n hp
  simp only at this
  rw[this]at hq;cases hq
 refine⟨x.na,x.nx,wf_set x.w,wf_set x.W,fun k hk=> ?_,fun k hk=> ?_,fun k hk=> ?_,fun k p hp=> ?_⟩
 ·simp only[Rp]
  by_cases e:n=k
  ·subst e
   rw[if_pos rfl,if_pos rfl]
   have:=x.obj n hP
   simp only at this
   rw[this]
   cases Zh h n <;> rfl
  ·rw[if_neg e,if_neg (fun h=>e (hρ.Zv1 h))]
   exact x.obj k hk
 ·simp only[Rp]
  rw[if_neg (show¬n=k from fun e=>hP (by rw[e];exact hk))]
  exact x.abs k hk
 ·simp only[Rp]
  rw[if_neg (fun e=>hP (hk n e))]
  exact x.out k hk
 ·simp only[Rp]at hp
  split at hp
  ·cases hg:Zh h n with
   | none=>rw[hg]at hp;cases hp
   | some q=>rw[hg]at hp;cases hp;exact ho
  ·exact x.frC k p hp
theorem Sim.del (x:Sim ρ F ⟨h,m⟩ ⟨H,M⟩) (hρ:ρ.ok) {n:Nat} {q:Qb} (hq:Zh h n=some q):Sim ρ F ⟨Ub h n,m⟩ ⟨Ub H (ρ.f n),M⟩:=by
 have hP:¬ρ.P n:=fun hp=>by
  have:=x.abs n hp
  simp only at this
  rw[this]at hq;cases hq
 refine⟨x.na,x.nx,x.w.del n,x.W.del _,fun k hk=> ?_,fun k hk=> ?_,fun k hk=> ?_,fun k p hp=> ?_⟩
 ·simp only[Kj]
  by_cases e:n=k
  ·subst e;rw[if_pos rfl,if_pos rfl];rfl
  ·rw[if_neg e,if_neg (fun h=>e (hρ.Zv1 h))]
   exact x.obj k hk
 ·simp only[Kj]
  rw[if_neg (show¬n=k from fun e=>hP (by rw[e];exact hk))]
  exact x.abs k hk
 ·simp only[Kj]
  rw[if_neg (fun e=>hP (hk n e))]
  exact x.out k hk
 ·simp only[Kj]at hp
  split at hp
  ·cases hp
  ·exact x.frC k p hp
theorem Zu1 {c n:Nat} (w:St.Wf ⟨h,m⟩):n∈K3 c h↔c≤n∧∃ty cs,Zh h n=some (.cells ty true cs):=by
 constructor
 ·intro hn
  obtain⟨ty,cs,hm⟩:=Xc hn
  exact⟨Nb hn,ty,cs,I8 w.nd hm⟩
 ·rintro⟨hc,ty,cs,hg⟩
  have hm:=Zjv hg
  clear hg w
  induction h with
  | nil=>cases hm
  | cons p h ih=>
    obtain⟨k,q⟩:=p
    rcases List.mem_cons.1 hm with e | hm
    ·cases e
     simp only[K3]
     rw[if_neg (by omega)]
     exact List.mem_cons_self
    ·have:=ih hm
     simp only[K3]
     split
     ·split
      ·exact this
      ·exact List.mem_cons_of_mem _ this
     ·exact this
theorem Sim.drop (x:Sim ρ F s S) (hρ:ρ.ok) {c:Nat} (hc:ρ.a≤c):Sim ρ F ⟨Zb c s.h,s.nx⟩ ⟨Zb (ρ.f c) S.h,S.nx⟩:=by
 have key:∀n,¬ρ.P n→(ρ.f n∈K3 (ρ.f c) S.h↔n∈K3 c s.h):=fun n hn=>by
  rw[Zu1 (h:=S.h) (m:=S.nx) x.W,Zu1 (h:=s.h) (m:=s.nx) x.w,x.obj n hn]
  constructor
  ·rintro⟨h1,ty,cs,h2⟩
   refine⟨?_,?_⟩
   ·have:=(hρ.mono (n:=n) hc)
    by_cases hl:n<c
    ·have:=this.2 hl;omega
    ·omega
   ·cases hg:Zh s.h n with
    | none=>rw[hg]at h2;cases h2
    | some o=>
      rw[hg]at h2
      cases o <;> simp[Qb.mv]at h2
      rw[h2.2.1]
      exact⟨_,_,rfl⟩
  ·rintro⟨h1,ty,cs,h2⟩
   refine⟨?_,ty,cs.map (AV.mv ρ.f),by rw[h2];rfl⟩
   by_cases e:c=n
   ·rw[e];exact Nat.le_refl _
   ·exact Nat.le_of_lt ((hρ.mono (n:=c) (by omega)).2 (by omega))
 refine⟨x.na,x.nx,x.w.Zb c,x.W.Zb _,fun n hn=> ?_,fun n hn=> ?_,fun k hk=> ?_,fun k p hp=>x.frC k p (Fl hp)⟩
 ·simp only[Us,Yl,key n hn]
  split
  ·rfl
  ·exact x.obj n hn
 ·simp only[Us,Yl,x.abs n hn]
  split <;> rfl
 ·simp only[Us,Yl]
  rw[if_neg]
  ·exact x.out k hk
  ·intro hm
   have h1:=Nb hm
   unfold Mv.f at h1
   rw[if_neg (by omega)]at h1
   have h2:=hρ.P _ (hk (k - ρ.N+ρ.a) (by
    unfold Mv.f
    rw[if_neg (by omega)]
    omega))
   omega
theorem Sim.Qg (x:Sim ρ F s S) {n off cnt:Nat} {l:List AV} (hr:Qg s.h n off cnt=some l):Qg S.h (ρ.f n) off cnt=some (l.map (AV.mv ρ.f)):=by
 unfold Go.Ev.Qg at hr⊢
 cases hg:Zh s.h n with
 | none=>rw[hg]at hr;cases hr
 | some o=>
   rw[x.get hg]
   rw[hg]at hr
   cases o <;> simp only[Qb.mv,List.length_map]at hr⊢
   all_goals
    first
    | cases hr
    | (split at hr
       ·rename_i hc
        cases hr
        rw[if_pos hc,List.map_take,List.map_drop]
       ·cases hr)
theorem Sim.Q5 (x:Sim ρ F s S) {n off:Nat} {v:AV} (hr:Q5 s.h n off=some v):Q5 S.h (ρ.f n) off=some (v.mv ρ.f):=by
 unfold Go.Ev.Q5 at hr⊢
 cases hg:Zh s.h n with
 | none=>rw[hg]at hr;cases hr
 | some o=>
   rw[x.get hg]
   rw[hg]at hr
   cases o <;> simp only[Qb.mv]at hr⊢
   all_goals
    first
    | cases hr
    | (rw[List.getElem?_map,hr];rfl)
theorem Zc4 {f:Nat→Nat}:∀l:List AV,W4 (l.map (AV.mv f))=W4 l
 | []=>rfl
 | v::r=>by
   have ih:=Zc4 (f:=f) r
   cases v with
   | int k n=>cases k <;> simp[AV.mv,W4,ih]
   | _=>simp[AV.mv,W4]
theorem Zrc {f:Nat→Nat} (kk:Kd) (k:AV):∀es:List (AV×AV),Ug kk (k.mv f) (es.map fun p=>(p.1.mv f,p.2.mv f))=(Ug kk k es).map (Option.map (AV.mv f))
 | []=>rfl
 | (a,v)::r=>by
   simp only[List.map_cons,Ug,C7]
   cases Qo kk k a with
   | none=>rfl
   | some b=>cases b <;> simp[Zrc kk k r]
theorem Zu3 {f:Nat→Nat} (kk:Kd) (k v:AV):∀es:List (AV×AV),Mb kk (k.mv f) (v.mv f) (es.map fun p=>(p.1.mv f,p.2.mv f))=(Mb kk k v es).map (List.map fun p=>(p.1.mv f,p.2.mv f))
 | []=>by
   simp only[List.map_nil,Mb,C7]
   split <;> simp
 | (a,u)::r=>by
   simp only[List.map_cons,Mb,C7]
   cases Qo kk k a with
   | none=>rfl
   | some b=>
     cases b
     ·simp only[Zu3 kk k v r]
      cases Mb kk k v r <;> simp
     ·simp
theorem Zab8 (hρ:ρ.ok) (x:Sim ρ F s S) {e:Env} {o:RO} (h:o.fr=true) {v:AV} (hr:RO.run (AO.ev e) s.h o=some v):RO.run (AO.ev (mvE ρ.f e)) S.h o=some (v.mv ρ.f):=by
 cases o with
 | load sz a=>
   have ha:=Q3 (f:=ρ.f) (e:=e) (x:=a) h
   cases sz with
   | none=>
     simp only[RO.run,ha]at hr⊢
     cases hv:AO.ev e a with
     | ptr n o=>
       rw[hv]at hr
       exact x.Q5 hr
     | _=>rw[hv]at hr;cases hr
   | some z=>
     simp only[RO.run,ha]at hr⊢
     cases hv:AO.ev e a with
     | ptr n o=>
       rw[hv]at hr
       simp only[AV.mv]at hr⊢
       cases hc:Go.Ev.Qg s.h n o z with
       | none=>rw[hc]at hr;cases hr
       | some l=>
         rw[hc]at hr
         cases hr
         rw[x.Qg hc]
         simp[AV.mv,W2]
     | _=>rw[hv]at hr;cases hr
 | b2s a=>
   simp only[RO.run,Q3 (f:=ρ.f) (e:=e) (x:=a) h]at hr⊢
   cases hv:AO.ev e a with
   | slice n o l c=>
     rw[hv]at hr
     simp only[AV.mv]at hr⊢
     cases hc:Go.Ev.Qg s.h n o l with
     | none=>rw[hc]at hr;cases hr
     | some cs=>
       rw[hc]at hr
       rw[x.Qg hc]
       simp only[Zc4]at hr⊢
       cases hb:W4 cs with
       | none=>rw[hb]at hr;cases hr
       | some t=>rw[hb]at hr;cases hr;simp[AV.mv]
   | Zc=>rw[hv]at hr;cases hr;simp[AV.mv]
   | _=>rw[hv]at hr;cases hr
 | lookup kk z ok mm k=>
   simp only[RO.fr,Bool.and_eq_true]at h
   obtain⟨h1,h2,h3⟩:=h
   have hz:=Zrg ρ.f z h1
   simp only[RO.run,Q3 h2,Q3 h3,C7]at hr⊢
   cases hv:AO.ev e mm with
   | Vi=>
     rw[hv]at hr
     simp only[AV.mv]at hr⊢
     split at hr
     case isFalse=>cases hr
     rename_i hc
     rw[if_pos hc]
     cases hr
     cases ok <;> simp[AV.mv,W2,hz]
   | map n=>
     rw[hv]at hr
     simp only[AV.mv]at hr⊢
     cases hg:Zh s.h n with
     | none=>rw[hg]at hr;cases hr
     | some o=>
       rw[hg]at hr
       rw[x.get hg]
       cases o with
       | map es=>
         simp only[Qb.mv,Zrc]at hr⊢
         split at hr
         case isFalse=>cases hr
         rename_i hc
         rw[if_pos hc]
         cases hm:Ug kk (AO.ev e k) es with
         | none=>rw[hm]at hr;cases hr
         | some r=>rw[hm]at hr;cases r <;> cases hr <;> cases ok <;> simp[AV.mv,W2,hz]
       | _=>cases hr
   | _=>rw[hv]at hr;cases hr
 | Ztt mm=>
   simp only[RO.run,Q3 (f:=ρ.f) (e:=e) (x:=mm) h]at hr⊢
   cases hv:AO.ev e mm with
   | map n=>
     rw[hv]at hr
     simp only[AV.mv]at hr⊢
     cases hg:Zh s.h n with
     | none=>rw[hg]at hr;cases hr
     | some o=>
       rw[hg]at hr
       rw[x.get hg]
       cases o with
       | map es=>cases hr;simp[Qb.mv,AV.mv]
       | _=>cases hr
   | Vi=>rw[hv]at hr;cases hr;simp[AV.mv]
   | _=>rw[hv]at hr;cases hr
 | toU a=>
   simp only[RO.run,Q3 (f:=ρ.f) (e:=e) (x:=a) h]at hr⊢
   cases hv:AO.ev e a with
   | ptr n o=>
     rw[hv]at hr
     simp only[AV.mv]at hr⊢
     cases hg:Zh s.h n with
     | none=>rw[hg]at hr;cases hr
     | some p=>
       rw[hg]at hr
       rw[x.get hg]
       cases p with
       | cells ty l cs=>
         simp only[Qb.mv,List.length_map]at hr⊢
         split at hr
         case isFalse=>cases hr
         rename_i hc
         rw[if_pos hc]
         cases hr
         simp[AV.mv]
       | _=>cases hr
   | _=>rw[hv]at hr;cases hr
 | ofU ty z a=>
   simp only[RO.run,Q3 (f:=ρ.f) (e:=e) (x:=a) h]at hr⊢
   cases hv:AO.ev e a with
   | ptr n o=>
     rw[hv]at hr
     simp only[AV.mv]at hr⊢
     cases hg:Zh s.h n with
     | none=>rw[hg]at hr;cases hr
     | some p=>
       rw[hg]at hr
       rw[x.get hg]
       cases p with
       | cells ty' l cs=>
         simp only[Qb.mv,List.length_map]at hr⊢
         split at hr
         case isFalse=>cases hr
         rename_i hc
         rw[if_pos hc]
         cases hr
         simp[AV.mv]
       | _=>cases hr
   | _=>rw[hv]at hr;cases hr
 | Sa g len es i=>
   simp only[RO.fr,Bool.and_eq_true,decide_eq_true_eq]at h
   simp only[RO.run,Q3 h.2]at hr⊢
   cases hv:AO.ev e i with
   | int k j=>
     rw[hv]at hr
     simp only[AV.mv]at hr⊢
     cases hg:Zh s.h g with
     | none=>rw[hg]at hr;cases hr
     | some p=>
       have hG:=x.get hg
       rw[hρ.fix g h.1]at hG
       rw[hg]at hr
       rw[hG]
       cases p with
       | Wz k cs=>
         simp only[Qb.mv]at hr⊢
         split at hr
         case isFalse=>cases hr
         rename_i hc
         rw[if_pos hc]
         cases hr
         simp[AV.mv,hρ.fix g h.1]
       | _=>cases hr
   | _=>rw[hv]at hr;cases hr
theorem Zvb {f:Nat→Nat} {z:List AV} (h:z.map (AV.mv f)=z):∀n,(Bn z n).map (AV.mv f)=Bn z n
 | 0=>rfl
 | n+1=>by simp[Bn,h,Zvb h n]
theorem Zab7 {f:Nat→Nat} {e:Env} {o:NO} (h:o.fr=true) (n:Nat):NO.run (AO.ev (mvE f e)) (f n) o=(NO.run (AO.ev e) n o).map fun p=>(p.1.mv f,p.2.mv f):=by
 cases o with
 | alloc ty l z=>simp[NO.run,AV.mv,Qb.mv,Zo5 (f:=f) (show AV.frs z=true from h)]
 | box ty l a=>
   simp only[NO.run,Q3 (f:=f) (e:=e) (x:=a) h,Zacq]
   split <;> simp[AV.mv,Qb.mv,Zfc]
 | Qe ty len z ps=>
   simp only[NO.fr,Bool.and_eq_true]at h
   have hz:=Zo5 (f:=f) h.1
   have:=Zis (f:=f) (ev:=AO.ev e) (ev':=AO.ev (mvE f e)) ps z (fun p hp=>Q3 (List.all_eq_true.1 h.2 p hp))
   rw[hz]at this
   simp only[NO.run,this]
   cases Dj (AO.ev e) z ps <;> simp[AV.mv,Qb.mv]
 | Zre ty es b z l c=>
   simp only[NO.fr,Bool.and_eq_true]at h
   have hz:=Zo5 (f:=f) h.1
   simp only[NO.run,Q3 h.2.1,Q3 h.2.2]
   cases AO.ev e l with
   | int k x=>
     cases AO.ev e c with
     | int k' y=>
       simp only[AV.mv]
       split <;> simp[AV.mv,Qb.mv,Zvb hz]
     | _=>simp[AV.mv]
   | _=>simp[AV.mv]
 | mkMap=>simp[NO.run,AV.mv,Qb.mv]
 | s2b ty a=>
   simp only[NO.run,Q3 (f:=f) (e:=e) (x:=a) h]
   cases AO.ev e a <;> simp[AV.mv,Qb.mv]
 | A3 a=>
   simp only[NO.run,Q3 (f:=f) (e:=e) (x:=a) h]
   cases AO.ev e a <;> simp[AV.mv,Qb.mv]
theorem Zxd {e:Env} {o:NO} {n:Nat} {p:AV×Qb} (h:NO.run (AO.ev e) n o=some p):p.2.frC=true:=by
 cases o <;> simp only[NO.run]at h <;> (try (cases h;rfl)) <;> repeat' (split at h <;> try (cases h;rfl))
 all_goals cases h
end
end Go.Ev

/- Names changed: writes, calls, runs. -/
namespace Go.Ev
open Go
section
variable {ρ : Mv} {F : Nat → Option Qb} {s S : St}
def Znc (ρ:Mv) (F:Nat→Option Qb) (f:Qx):Prop:=∀a args s v s1,f a args s=some (v,s1)→∀S,Sim ρ F s S→∃S1,f (a.mv ρ.f) (args.map (AV.mv ρ.f)) S=some (v.mv ρ.f,S1)∧Sim ρ F s1 S1∧Gr s s1
def Zsq (ρ:Mv) (F:Nat→Option Qb) (ex:ExF):Prop:=∀c,c.fr=true→∀e s x e1 s1,ex c e s=some (x,e1,s1)→∀S,Sim ρ F s S→∃S1,ex c (mvE ρ.f e) S=some (x,mvE ρ.f e1,S1)∧Sim ρ F s1 S1∧Gr s s1
theorem Zc7 (hρ:ρ.ok) {h H:Heap} {m M:Nat} (x:Sim ρ F ⟨h,m⟩ ⟨H,M⟩) {n off:Nat} {vs:List AV} {h':Heap} (hr:Jy h n off vs=some h'):
  ∃H',Jy H (ρ.f n) off (vs.map (AV.mv ρ.f))=some H'∧Sim ρ F ⟨h',m⟩ ⟨H',M⟩∧Gr ⟨h,m⟩ ⟨h',m⟩:=by
 unfold Jy at hr⊢
 cases hg:Zh h n with
 | none=>rw[hg]at hr;cases hr
 | some o=>
   have ho:=x.get hg
   simp only at ho
   rw[ho]
   rw[hg]at hr
   cases o with
   | cells ty l cs=>
     simp only at hr
     split at hr
     case isFalse=>cases hr
     rename_i hc
     cases hr
     refine⟨Z7 H (ρ.f n) (Qb.mv ρ.f (.cells ty l (Qd cs off vs))),?_,x.set hρ hg rfl,Gr.set⟩
     simp only[Qb.mv,List.length_map,Ziu]
     rw[if_pos hc,Zar]
   | buf ty es cs=>
     simp only at hr
     split at hr
     case isFalse=>cases hr
     rename_i hc
     cases hr
     refine⟨Z7 H (ρ.f n) (Qb.mv ρ.f (.buf ty es (Qd cs off vs))),?_,x.set hρ hg rfl,Gr.set⟩
     simp only[Qb.mv,List.length_map,Ziu]
     rw[if_pos hc,Zar]
   | _=>cases hr
theorem Zhg (x:Sim ρ F s S) {es:Nat} {v:AV} {p:Nat×List AV} (hr:Vl s.h es v=some p):Vl S.h es (v.mv ρ.f)=some (p.1,p.2.map (AV.mv ρ.f)):=by
 cases v with
 | slice n o l c=>
   simp only[AV.mv,Vl]at hr⊢
   cases hc:Go.Ev.Qg s.h n o (l*es)with
   | none=>rw[hc]at hr;cases hr
   | some cs=>rw[hc]at hr;cases hr;rw[x.Qg hc];rfl
 | Zc=>cases hr;simp[AV.mv,Vl]
 | str t=>
   simp only[AV.mv,Vl]at hr⊢
   split at hr
   case isFalse=>cases hr
   rename_i hc
   rw[if_pos hc]
   cases hr
   simp[AV.mv]
 | _=>cases hr
theorem Zsr (hρ:ρ.ok) (x:Sim ρ F s S) {ty es b:Nat} {a y v:AV} {s1:St} (hr:Vf ty es b s a y=some (v,s1)):
  ∃S1,Vf ty es b S (a.mv ρ.f) (y.mv ρ.f)=some (v.mv ρ.f,S1)∧Sim ρ F s1 S1∧Gr s s1:=by
 obtain⟨h,m⟩:=s
 obtain⟨H,M⟩:=S
 unfold Vf at hr⊢
 simp only at hr⊢
 have hM:=x.nx
 simp only at hM
 cases hsrc:Vl h es y with
 | none=>rw[hsrc]at hr;cases hr
 | some p=>
   have hS:=Zhg x hsrc
   simp only at hS
   rw[hS]
   obtain⟨k,new⟩:=p
   rw[hsrc]at hr
   simp only at hr⊢
   cases a with
   | Zc=>
     simp only[AV.mv]at hr⊢
     split at hr
     ·cases hr
      rename_i h0
      rw[if_pos h0]
      exact⟨⟨H,M⟩,by simp[AV.mv],x,Gr.refl _⟩
     ·rename_i h0
      rw[if_neg h0]
      split at hr
      case isFalse=>cases hr
      rename_i h1
      cases hr
      rw[if_pos h1]
      refine⟨_,?_,x.new hρ (o:= .buf ty es new) rfl,Gr.cons⟩
      rw[hM]
      simp[AV.mv,Qb.mv]
   | slice n o len cap=>
     simp only[AV.mv]at hr⊢
     split at hr
     case isFalse=>cases hr
     rename_i h0
     rw[if_pos h0]
     cases cap with
     | known c=>
       simp only at hr⊢
       split at hr
       ·rename_i h1
        rw[if_pos h1]
        cases hw:Jy h n (o+len*es) new with
        | none=>rw[hw]at hr;cases hr
        | some h'=>
          rw[hw]at hr
          simp only[Option.map_some,Option.some.injEq,Prod.mk.injEq]at hr
          obtain⟨rfl,rfl⟩:=hr
          obtain⟨H',e1,e2,e3⟩:=Zc7 hρ x hw
          exact⟨⟨H',M⟩,by rw[e1];simp[AV.mv],e2,e3⟩
       ·rename_i h1
        rw[if_neg h1]
        cases hw:Go.Ev.Qg h n o (len*es)with
        | none=>rw[hw]at hr;cases hr
        | some old=>
          have hrd:=x.Qg hw
          simp only at hrd
          rw[hrd]
          rw[hw]at hr
          simp only[Option.map_some,Option.some.injEq,Prod.mk.injEq]at hr⊢
          obtain⟨rfl,rfl⟩:=hr
          refine⟨_,⟨?_,rfl⟩,?_,Gr.cons⟩
          ·rw[hM];simp[AV.mv]
          ·have:=x.new hρ (o:= .buf ty es (old++new)) rfl
           simpa [Qb.mv] using this
     | full=>
       simp only at hr⊢
       cases hg:Zh h n with
       | none=>rw[hg]at hr;cases hr
       | some q=>
         have ho:=x.get hg
         simp only at ho
         rw[ho]
         rw[hg]at hr
         cases q with
         | buf ty' es' cs=>
           simp only[Qb.mv,List.length_map,Ziu]at hr⊢
           split at hr
           case isFalse=>cases hr
           rename_i h1
           rw[if_pos h1]
           split at hr
           ·rename_i h2
            cases hr
            rw[if_pos h2]
            exact⟨⟨H,M⟩,by simp[AV.mv],x,Gr.refl _⟩
           ·rename_i h2
            rw[if_neg h2]
            cases hr
            have y1:=(x.del hρ hg).new hρ (o:= .buf ty es (cs++new)) rfl
            refine⟨_,?_,y1,Gr.trans (Gr.del (s:=⟨h,m⟩) (n:=n)) Gr.cons⟩
            rw[hM]
            simp[AV.mv,Qb.mv]
         | _=>cases hr
     | unk=>cases hr
   | _=>cases hr
theorem Zafy (hρ:ρ.ok) {f:Qx} (hf:Znc ρ F f) (x:Sim ρ F s S) {e:Env} {o:WO} (h:o.fr=true) {v:AV} {s1:St} (hr:WO.run f (AO.ev e) s o=some (v,s1)):
  ∃S1,WO.run f (AO.ev (mvE ρ.f e)) S o=some (v.mv ρ.f,S1)∧Sim ρ F s1 S1∧Gr s s1:=by
 obtain⟨hh,m⟩:=s
 obtain⟨H,M⟩:=S
 cases o with
 | store sz a y=>
   simp only[WO.fr,Bool.and_eq_true]at h
   simp only[WO.run,Q3 h.1,Q3 h.2,Zfc,List.length_map]at hr⊢
   cases ha:AO.ev e a with
   | ptr n o=>
     rw[ha]at hr
     simp only[AV.mv]at hr⊢
     split at hr
     case isFalse=>cases hr
     rename_i h1
     rw[if_pos h1]
     cases hw:Jy hh n o (Yg (AO.ev e y))with
     | none=>rw[hw]at hr;cases hr
     | some h'=>
       rw[hw]at hr
       simp only[Option.map_some,Option.some.injEq,Prod.mk.injEq]at hr
       obtain⟨rfl,rfl⟩:=hr
       obtain⟨H',e1,e2,e3⟩:=Zc7 hρ x hw
       exact⟨⟨H',M⟩,by rw[e1];simp[AV.mv],e2,e3⟩
   | _=>rw[ha]at hr;cases hr
 | append ty es b z a y=>
   simp only[WO.fr,Bool.and_eq_true]at h
   simp only[WO.run,Q3 h.1,Q3 h.2]at hr⊢
   exact Zsr hρ x hr
 | copy es d y=>
   simp only[WO.fr,Bool.and_eq_true]at h
   simp only[WO.run,Q3 h.1,Q3 h.2]at hr⊢
   cases hsrc:Vl hh es (AO.ev e y)with
   | none=>rw[hsrc]at hr;cases hr
   | some p=>
     have hS:=Zhg x hsrc
     simp only at hS
     rw[hS]
     obtain⟨k,new⟩:=p
     rw[hsrc]at hr
     simp only at hr⊢
     cases hd:AO.ev e d with
     | Zc=>
       rw[hd]at hr
       simp only[Option.some.injEq,Prod.mk.injEq]at hr
       obtain⟨rfl,rfl⟩:=hr
       exact⟨⟨H,M⟩,by simp[AV.mv],x,Gr.refl _⟩
     | slice n o len c=>
       rw[hd]at hr
       simp only[AV.mv]at hr⊢
       rw[←List.map_take]
       cases hw:Jy hh n o (new.take ((min k len)*es))with
       | none=>rw[hw]at hr;cases hr
       | some h'=>
         rw[hw]at hr
         simp only[Option.map_some,Option.some.injEq,Prod.mk.injEq]at hr
         obtain⟨rfl,rfl⟩:=hr
         obtain⟨H',e1,e2,e3⟩:=Zc7 hρ x hw
         exact⟨⟨H',M⟩,by rw[e1];simp[AV.mv],e2,e3⟩
     | _=>rw[hd]at hr;cases hr
 | Zbp kk mm k y=>
   simp only[WO.fr,Bool.and_eq_true]at h
   simp only[WO.run,Q3 h.1,Q3 h.2.1,Q3 h.2.2]at hr⊢
   cases hm:AO.ev e mm with
   | map n=>
     rw[hm]at hr
     simp only[AV.mv]at hr⊢
     cases hg:Zh hh n with
     | none=>rw[hg]at hr;cases hr
     | some q=>
       have ho:=x.get hg
       simp only at ho
       rw[ho]
       rw[hg]at hr
       cases q with
       | map es=>
         simp only[Qb.mv,Zu3]at hr⊢
         cases hw:Mb kk (AO.ev e k) (AO.ev e y) es with
         | none=>rw[hw]at hr;cases hr
         | some es'=>
           rw[hw]at hr
           simp only[Option.map_some,Option.some.injEq,Prod.mk.injEq]at hr
           obtain⟨rfl,rfl⟩:=hr
           exact⟨_,by simp[AV.mv];rfl,by have:=x.set hρ (o:= .map es') hg rfl;simpa [Qb.mv] using this,Gr.set⟩
       | _=>cases hr
   | _=>rw[hm]at hr;cases hr
 | call g xs=>
   simp only[WO.fr,Bool.and_eq_true]at h
   simp only[WO.run,Q3 h.1,Zn1 h.2]at hr⊢
   exact hf _ _ _ _ _ hr _ x
 | Zmh ty p l=>
   simp only[WO.fr,Bool.and_eq_true]at h
   simp only[WO.run,Q3 h.1,Q3 h.2]at hr⊢
   cases hp:AO.ev e p with
   | J8=>
     rw[hp]at hr
     cases hl:AO.ev e l with
     | int kk k=>
       rw[hl]at hr
       cases kk <;> simp only[AV.mv]at hr⊢<;> try (cases hr;done)
       split at hr
       case isFalse=>cases hr
       rename_i h0
       cases hr
       rw[if_pos h0]
       exact⟨⟨H,M⟩,by simp[AV.mv],x,Gr.refl _⟩
     | _=>rw[hl]at hr;cases hr
   | ptr n o=>
     rw[hp]at hr
     cases hl:AO.ev e l with
     | int kk k=>
       rw[hl]at hr
       cases kk <;> simp only[AV.mv]at hr⊢<;> try (cases hr;done)
       cases hg:Zh hh n with
       | none=>rw[hg]at hr;cases hr
       | some q=>
         have ho:=x.get hg
         simp only at ho
         rw[ho]
         rw[hg]at hr
         cases q with
         | buf ty' es cs=>
           simp only[Qb.mv,List.length_map,Zc4]at hr⊢
           split at hr
           case isFalse=>cases hr
           rename_i h1
           rw[if_pos h1]
           cases hb:W4 cs with
           | none=>rw[hb]at hr;cases hr
           | some t=>
             rw[hb]at hr
             simp only[Option.map_some,Option.some.injEq,Prod.mk.injEq]at hr
             obtain⟨rfl,rfl⟩:=hr
             exact⟨⟨Ub H (ρ.f n),M⟩,by simp[AV.mv],x.del hρ hg,Gr.del⟩
         | _=>cases hr
     | _=>rw[hl]at hr;cases hr
   | _=>rw[hp]at hr;cases hr
 | Sf a=>
   simp only[WO.run,Q3 (f:=ρ.f) (e:=e) (x:=a) h]at hr⊢
   cases ha:AO.ev e a with
   | ptr n o=>
     rw[ha]at hr
     simp only[AV.mv]at hr⊢
     cases hg:Zh hh n with
     | none=>rw[hg]at hr;cases hr
     | some q=>
       have ho:=x.get hg
       simp only at ho
       rw[ho]
       rw[hg]at hr
       cases q with
       | iter t pos=>
         simp only[Qb.mv]at hr⊢
         split at hr
         case isFalse=>cases hr
         rename_i h1
         rw[if_pos h1]
         split at hr
         ·rename_i h2
          rw[if_pos h2]
          cases hr
          exact⟨_,by simp[AV.mv,AV.mvs];rfl,by have:=x.set hρ (o:= .iter t (pos+(G4 t pos).2)) hg rfl;simpa [Qb.mv] using this,Gr.set⟩
         ·rename_i h2
          rw[if_neg h2]
          cases hr
          exact⟨⟨H,M⟩,by simp[AV.mv,AV.mvs],x,Gr.refl _⟩
       | _=>cases hr
   | _=>rw[ha]at hr;cases hr
theorem Zab6 (hρ:ρ.ok) {f:Qx} (hf:Znc ρ F f) (x:Sim ρ F s S) {e:Env} {o:MO} (h:o.fr=true) {v:AV} {s1:St} (hr:MO.run f (AO.ev e) s o=some (v,s1)):
  ∃S1,MO.run f (AO.ev (mvE ρ.f e)) S o=some (v.mv ρ.f,S1)∧Sim ρ F s1 S1∧Gr s s1:=by
 cases o with
 | p o=>
   simp only[MO.run,Zafv (fun n m e=>hρ.Zv1 e) (show o.fr=true from h)]at hr⊢
   cases hp:PO.run (AO.ev e) o with
   | none=>rw[hp]at hr;cases hr
   | some w=>
     rw[hp]at hr
     cases hr
     exact⟨S,rfl,x,Gr.refl _⟩
 | r o=>
   simp only[MO.run]at hr⊢
   cases hp:RO.run (AO.ev e) s.h o with
   | none=>rw[hp]at hr;cases hr
   | some w=>
     rw[Zab8 hρ x (show o.fr=true from h) hp]
     rw[hp]at hr
     cases hr
     exact⟨S,rfl,x,Gr.refl _⟩
 | n o=>
   obtain⟨hh,m⟩:=s
   obtain⟨H,M⟩:=S
   have hM:=x.nx
   simp only at hM
   simp only[MO.run]at hr⊢
   rw[hM,Zab7 (show o.fr=true from h)]
   cases hp:NO.run (AO.ev e) m o with
   | none=>rw[hp]at hr;cases hr
   | some w=>
     have hfr:=Zxd hp
     rw[hp]at hr
     obtain⟨w,q⟩:=w
     cases hr
     have:=x.new hρ (o:=q) hfr
     rw[hM]at this
     exact⟨_,rfl,this,Gr.cons⟩
 | w o=>exact Zafy hρ hf x (show o.fr=true from h) hr
theorem Zgm {f:Nat→Nat} (e:Env) (g:Option (Nat×Bool)):wanted (mvE f e) g=wanted e g:=by
 cases g with
 | none=>rfl
 | some p=>
   obtain⟨t,b⟩:=p
   simp only[wanted,Nv]
   cases Zl e t <;> simp[AV.mv]
theorem Zdu {f:Nat→Nat} (e:Env) (d:Option Nat) (v:AV):Vm (mvE f e) d (v.mv f)=mvE f (Vm e d v):=by
 cases d <;> rfl
theorem Zna {f:Nat→Nat}:(Hz).mv f=Hz:=by simp[AV.mv,AV.mvs]
theorem Zafr (hρ:ρ.ok) {f:Qx} (hf:Znc ρ F f) (x:Sim ρ F s S) {e:Env} {o:MI} (h:o.op.fr=true) {e1:Env} {s1:St} (hr:o.run f e s=some (e1,s1)):
  ∃S1,o.run f (mvE ρ.f e) S=some (mvE ρ.f e1,S1)∧Sim ρ F s1 S1∧Gr s s1:=by
 unfold MI.run at hr⊢
 rw[Zgm]
 cases hw:wanted e o.guard with
 | none=>rw[hw]at hr;cases hr
 | some b=>
   rw[hw]at hr
   cases b with
   | true=>
     simp only at hr⊢
     cases hm:MO.run f (AO.ev e) s o.op with
     | none=>rw[hm]at hr;cases hr
     | some p=>
       obtain⟨v,s2⟩:=p
       rw[hm]at hr
       cases hr
       obtain⟨S1,h1,h2,h3⟩:=Zab6 hρ hf x h hm
       rw[h1]
       simp only[Zdu]
       exact⟨S1,rfl,h2,h3⟩
   | false=>
     simp only at hr⊢
     cases hr
     refine⟨S,?_,x,Gr.refl _⟩
     rw[←Zdu,Zna]
theorem Zap (hρ:ρ.ok) {f:Qx} (hf:Znc ρ F f):∀{l:List MI} {e e1:Env} {s s1 S:St},(l.all fun i=>i.op.fr)=true→Ko f l e s=some (e1,s1)→Sim ρ F s S→
  ∃S1,Ko f l (mvE ρ.f e) S=some (mvE ρ.f e1,S1)∧Sim ρ F s1 S1∧Gr s s1
 | [],e,e1,s,s1,S,_,hr,x=>by
   cases hr
   exact⟨S,rfl,x,Gr.refl _⟩
 | o::l,e,e1,s,s1,S,h,hr,x=>by
   simp only[List.all_cons,Bool.and_eq_true]at h
   simp only[Ko]at hr⊢
   cases hm:o.run f e s with
   | none=>rw[hm]at hr;cases hr
   | some p=>
     obtain⟨e2,s2⟩:=p
     rw[hm]at hr
     obtain⟨S2,h1,h2,h3⟩:=Zafr hρ hf x h.1 hm
     rw[h1]
     obtain⟨S3,h4,h5,h6⟩:=Zap hρ hf (l:=l) h.2 hr h2
     exact⟨S3,h4,h5,h3.trans h6⟩
theorem Zz1 {f:Nat→Nat} (hf:∀n m,f n=f m→n=m) (n m:Nat):(f n == f m)=(n == m):=by
 by_cases h:n=m
 ·subst h;simp
 ·rw[beq_eq_false_iff_ne.2 h,beq_eq_false_iff_ne.2 (fun e=>h (hf _ _ e))]
mutual
theorem Znj {f:Nat→Nat} (hf:∀n m,f n=f m→n=m):∀a b:AV,Vg (a.mv f) (b.mv f)=Vg a b
 | .ptr n o,b=>by cases b <;> simp[AV.mv,Vg,Zz1 hf]
 | .slice n o l c,b=>by cases b <;> simp[AV.mv,Vg,Zz1 hf]
 | .map n,b=>by cases b <;> simp[AV.mv,Vg,Zz1 hf]
 | .yield n,b=>by cases b <;> simp[AV.mv,Vg,Zz1 hf]
 | .fn k a c,b=>by
   cases b with
   | fn k' a' c'=>simp only[AV.mv,Vg,Tp hf a a',Tp hf c c']
   | _=>simp[AV.mv,Vg]
 | .iface t v,b=>by
   cases b with
   | iface t' v'=>simp only[AV.mv,Vg,Znj hf v v']
   | _=>simp[AV.mv,Vg]
 | .agg a,b=>by
   cases b with
   | agg a'=>simp only[AV.mv,Vg,Tp hf a a']
   | _=>simp[AV.mv,Vg]
 | .tuple a,b=>by
   cases b with
   | tuple a'=>simp only[AV.mv,Vg,Tp hf a a']
   | _=>simp[AV.mv,Vg]
 | .bot,b | .bool _,b | .int _ _,b | .str _,b | .J8,b | .Zc,b | .Vi,b | .Jx,b | .K6,b=>by cases b <;> simp[AV.mv,Vg]
theorem Tp {f:Nat→Nat} (hf:∀n m,f n=f m→n=m):∀a b:List AV,Hb (AV.mvs f a) (AV.mvs f b)=Hb a b
 | [],[]=>by simp[AV.mvs,Hb]
 | [],_::_=>by simp[AV.mvs,Hb]
 | _::_,[]=>by simp[AV.mvs,Hb]
 | a::x,b::y=>by simp only[AV.mvs,Hb,Znj hf a b,Tp hf x y]
end
theorem Zabi (hρ:ρ.ok) {f:Qx} (hf:Znc ρ F f) (x:Sim ρ F s S) {nm:Nat} {e:Env} {o:MI} (h:o.op.fr=true) (hn:nm<s.nx) (h0:Zh s.h nm=none) (ha:ρ.a≤nm) {e1:Env} {s1:St} {nm1:Nat} (hr:G9 f nm o e s=some (e1,s1,nm1)):
  ∃S1,G9 f (ρ.f nm) o (mvE ρ.f e) S=some (mvE ρ.f e1,S1,ρ.f nm1)∧Sim ρ F s1 S1∧s.nx≤s1.nx∧(∀n,n<s.nx→n≠nm→Zh s.h n=none→Zh s1.h n=none)∧(nm1=nm∧Zh s1.h nm=none∨nm1=nm+1):=by
 unfold G9 at hr⊢
 rw[Zgm]
 cases hw:wanted e o.guard with
 | none=>rw[hw]at hr;cases hr
 | some b=>
   rw[hw]at hr
   cases b with
   | false=>
     simp only at hr⊢
     cases hr
     refine⟨S,?_,x,Nat.le_refl _,fun _ _ _ h=>h,Or.inl (And.intro (Eq.refl nm) h0)⟩
     rw[←Zdu,Zna]
   | true=>
     simp only at hr⊢
     have main:∀{v s2},MO.run f (AO.ev e) s o.op=some (v,s2)→(Vm e o.dst v,s2,nm)=(e1,s1,nm1)→∃S1,(match MO.run f (AO.ev (mvE ρ.f e)) S o.op with | some (v,st)=>some (Vm (mvE ρ.f e) o.dst v,st,ρ.f nm) | none=>none)=some (mvE ρ.f e1,S1,ρ.f nm1)∧Sim ρ F s1 S1∧s.nx≤s1.nx∧(∀n,n<s.nx→n≠nm→Zh s.h n=none→Zh s1.h n=none)∧(nm1=nm∧Zh s1.h nm=none∨nm1=nm+1):=by
      intro v s2 hm he
      cases he
      obtain⟨S1,h1,h2,h3⟩:=Zab6 hρ hf x h hm
      rw[h1]
      simp only[Zdu]
      exact⟨S1,rfl,h2,h3.nx,fun n h1 _ h2=>h3.no n h1 h2,.inl ⟨trivial,h3.no _ hn h0⟩⟩
     cases hop:o.op with
     | n p=>
       rw[hop]at hr h
       simp only at hr⊢
       rw[Zab7 (show p.fr=true from h)]
       cases hp:NO.run (AO.ev e) nm p with
       | none=>rw[hp]at hr;cases hr
       | some w=>
         have hfr:=Zxd hp
         rw[hp]at hr
         obtain⟨w,q⟩:=w
         cases hr
         simp only[Option.map_some,Zdu]
         obtain⟨hh,m⟩:=s
         obtain⟨H,M⟩:=S
         refine⟨⟨(ρ.f nm,q.mv ρ.f)::H,M⟩,?_,x.cons hρ h0 ha hn hfr,Nat.le_refl _,fun n h1 h2 h3=> ?_,.inr trivial⟩
         ·rw[Mv.add ha]
         ·simp only[Zh]
          rw[if_neg (fun e=>h2 e.symm)]
          exact h3
     | _=>
       rw[hop]at hr
       simp only at hr
       rw[hop]at main
       split at hr
       case h_2=>cases hr
       rename_i hm
       exact main hm (Option.some.inj hr)
theorem Zmn:∀{d:List (Nat×MI)} {i:Nat} {o:MI},Zbw d i=some o→(i,o)∈d
 | (j,p)::r,i,o,h=>by
   simp only[Zbw]at h
   split at h
   ·rename_i e;subst e;cases h;exact List.mem_cons_self
   ·exact List.mem_cons_of_mem _ (Zmn h)
theorem Zaeh (hρ:ρ.ok) (x:Sim ρ F s S) {d:List (Nat×MI)} {e:Env} {i:Nat} (h:∀p∈d,p.2.op.fr=true) (hr:reI d i e s=true):reI d i (mvE ρ.f e) S=true:=by
 unfold reI at hr⊢
 cases hd:Zbw d i with
 | none=>rw[hd]at hr;cases hr
 | some o=>
   have ho:=h _ (Zmn hd)
   rw[hd]at hr
   simp only[Zgm]at hr⊢
   cases hw:wanted e o.guard with
   | none=>rw[hw]at hr;cases hr
   | some b=>
     rw[hw]at hr
     cases b with
     | false=>rfl
     | true=>
       simp only at hr⊢
       cases hop:o.op with
       | r p=>
         rw[hop]at hr ho
         cases hds:o.dst with
         | none=>rw[hds]at hr;cases hr
         | some t=>
           rw[hds]at hr
           simp only at hr⊢
           rw[Nv]
           cases hp:RO.run (AO.ev e) s.h p with
           | none=>rw[hp]at hr;cases hr
           | some v=>
             rw[Zab8 hρ x (show p.fr=true from ho) hp]
             rw[hp]at hr
             simp only at hr⊢
             rw[Znj (fun n m e=>hρ.Zv1 e)]
             exact hr
       | _=>rw[hop]at hr;cases hr
theorem Zpm (hρ:ρ.ok) {f:Qx} (hf:Znc ρ F f):∀{l:List RI} {d:List (Nat×MI)} {nm:Nat} {e e1:Env} {s s1 S:St},l.all RI.fr=true→(∀p∈d,p.2.op.fr=true)→ρ.a≤nm→nm+l.length≤s.nx→(∀n,nm≤n→n<nm+l.length→Zh s.h n=none)→G2 f d nm l e s=some (e1,s1)→Sim ρ F s S→
  ∃S1,G2 f d (ρ.f nm) l (mvE ρ.f e) S=some (mvE ρ.f e1,S1)∧Sim ρ F s1 S1∧s.nx≤s1.nx∧∀n,n<nm→Zh s.h n=none→Zh s1.h n=none
 | [],d,nm,e,e1,s,s1,S,_,_,_,_,_,hr,x=>by
   cases hr
   exact⟨S,rfl,x,Nat.le_refl _,fun _ _ h=>h⟩
 | .op i o::l,d,nm,e,e1,s,s1,S,h,hd,ha,hb,hn,hr,x=>by
   simp only[List.all_cons,Bool.and_eq_true]at h
   simp only[List.length_cons]at hb hn
   simp only[G2]at hr⊢
   cases hm:G9 f nm o e s with
   | none=>rw[hm]at hr;cases hr
   | some p=>
     obtain⟨e2,s2,nm2⟩:=p
     rw[hm]at hr
     obtain⟨S2,h1,h2,h3,h4,h5⟩:=Zabi hρ hf x (show o.op.fr=true from h.1) (by omega) (hn nm (Nat.le_refl _) (by omega)) ha hm
     rw[h1]
     have hle:nm≤nm2∧nm2≤nm+1:=by rcases h5 with ⟨h,_⟩ | h <;> omega
     have hfree:∀n,nm2≤n→n<nm2+l.length→Zh s2.h n=none:=fun n k1 k2=>by
      rcases h5 with ⟨k3,k4⟩ | k3
      ·by_cases e:n=nm
       ·subst e;exact k4
       ·exact h4 n (by omega) e (hn n (by omega) (by omega))
      ·exact h4 n (by omega) (by omega) (hn n (by omega) (by omega))
     obtain⟨S3,h6,h7,h8,h9⟩:=Zpm hρ hf (l:=l) (d:=(i,o)::d) h.2 (fun p hp=>by
      rcases List.mem_cons.1 hp with rfl | hp
      ·exact h.1
      ·exact hd p hp) (by omega) (by omega) hfree hr h2
     exact⟨S3,h6,h7,Nat.le_trans h3 h8,fun n k1 k2=>h9 n (by omega) (h4 n (by omega) (by omega) k2)⟩
 | .re i::l,d,nm,e,e1,s,s1,S,h,hd,ha,hb,hn,hr,x=>by
   simp only[List.all_cons,Bool.and_eq_true]at h
   simp only[List.length_cons]at hb hn
   simp only[G2]at hr⊢
   split at hr
   case isFalse=>cases hr
   rename_i h1
   rw[if_pos (Zaeh hρ x hd h1)]
   exact Zpm hρ hf (l:=l) (d:=d) h.2 hd ha (by omega) (fun n k1 k2=>hn n k1 (by omega)) hr x
end
end Go.Ev

/- Names changed: whole runs. -/
namespace Go.Ev
open Go
def ESim (E:Entry):Prop:=∀(ρ:Mv) (F:Nat→Option Qb),ρ.ok→∀args s v s1,E args s=some (v,s1)→∀S,Sim ρ F s S→∃S1,E (args.map (AV.mv ρ.f)) S=some (v.mv ρ.f,S1)∧Sim ρ F s1 S1∧Gr s s1
structure Zir (T:Tab):Prop where
 fn:∀k mf,T.fn k=some mf→mf.body.fr=true
 en:∀k E,T.en k=some E→ESim E
section
variable {ρ : Mv} {F : Nat → Option Qb} {s S : St} {T : Tab}
theorem Zml {f:Nat→Nat}:∀(l:List AV) (i:Nat),V0 i (l.map (AV.mv f))=mvE f (V0 i l)
 | [],i=>rfl
 | v::r,i=>by
   simp only[List.map_cons,V0,Zml r]
   rfl
theorem Zwo (x:Sim ρ F s S) {e:Env} {r:Zdc} {v:AV} (hr:Jk s.h e r=some v):Jk S.h (mvE ρ.f e) r=some (v.mv ρ.f):=by
 cases r with
 | t n=>cases hr;simp[Jk,Nv]
 | cell n sz=>
   cases sz with
   | none=>
     simp only[Jk,RO.run,AO.ev,Nv]at hr⊢
     cases hv:Zl e n with
     | ptr n o=>rw[hv]at hr;exact x.Q5 hr
     | _=>rw[hv]at hr;cases hr
   | some z=>
     simp only[Jk,RO.run,AO.ev,Nv]at hr⊢
     cases hv:Zl e n with
     | ptr n o=>
       rw[hv]at hr
       simp only[AV.mv]at hr⊢
       cases hc:Go.Ev.Qg s.h n o z with
       | none=>rw[hc]at hr;cases hr
       | some l=>rw[hc]at hr;cases hr;rw[x.Qg hc];simp[AV.mv,W2]
     | _=>rw[hv]at hr;cases hr
theorem Zkv (x:Sim ρ F s S) {e:Env}:∀{rs:List Zdc} {vs:List AV},Qn s.h e rs=some vs→Qn S.h (mvE ρ.f e) rs=some (vs.map (AV.mv ρ.f))
 | [],vs,hr=>by cases hr;rfl
 | r::rs,vs,hr=>by
   simp only[Qn]at hr⊢
   cases h1:Jk s.h e r with
   | none=>rw[h1]at hr;cases hr
   | some v=>
     cases h2:Qn s.h e rs with
     | none=>rw[h1,h2]at hr;cases hr
     | some ws=>
       rw[h1,h2]at hr
       cases hr
       rw[Zwo x h1,Zkv x h2]
       rfl
theorem Zqt (x:Sim ρ F s S) {e:Env} {rs:List Zdc} {v:AV} (hr:Zt s.h e rs=some v):Zt S.h (mvE ρ.f e) rs=some (v.mv ρ.f):=by
 simp only[Zt]at hr⊢
 cases h1:Qn s.h e rs with
 | none=>rw[h1]at hr;cases hr
 | some l=>
   rw[h1]at hr
   rw[Zkv x h1]
   rcases l with _ | ⟨v,_ | ⟨w,r⟩⟩ <;> cases hr <;> simp[AV.mv,AV.mvs,W2]
theorem Ztc (hρ:ρ.ok) (hT:Zir T) {ex:ExF} (hx:Zsq ρ F ex) {k:Nat} {args:List AV} {v:AV} {s1:St} (x:Sim ρ F s S) (hr:W1 T ex k args s=some (v,s1)):
  ∃S1,W1 T ex k (args.map (AV.mv ρ.f)) S=some (v.mv ρ.f,S1)∧Sim ρ F s1 S1∧Gr s s1:=by
 unfold W1 at hr⊢
 cases hen:T.en k with
 | some E=>
   rw[hen]at hr
   exact hT.en k E hen ρ F hρ _ _ _ _ hr _ x
 | none=>
   rw[hen]at hr
   simp only at hr⊢
   cases hfn:T.fn k with
   | none=>rw[hfn]at hr;cases hr
   | some mf=>
     have hfr:=hT.fn k mf hfn
     rw[hfn]at hr
     simp only[List.length_map]at hr⊢
     split at hr
     case isFalse=>cases hr
     rename_i hl
     rw[if_pos hl,Zml]
     cases hb:ex mf.body (V0 0 args) s with
     | none=>rw[hb]at hr;cases hr
     | some p=>
       obtain⟨y,e1,s2⟩:=p
       obtain⟨S2,h1,h2,h3⟩:=hx _ hfr _ _ _ _ _ hb _ x
       rw[hb]at hr
       rw[h1]
       have fin:∀{w:AV},Zt s2.h e1 mf.results=some w→v=w→s1=⟨Zb s.nx s2.h,s2.nx⟩→∃S1,(match Zt S2.h (mvE ρ.f e1) mf.results with | some v=>some (v,(⟨Zb S.nx S2.h,S2.nx⟩:St)) | none=>none)=some (v.mv ρ.f,S1)∧Sim ρ F s1 S1∧Gr s s1:=by
        rintro w hw rfl rfl
        rw[Zqt h2 hw]
        refine⟨_,rfl,?_,h3.trans Gr.drop⟩
        rw[x.nx]
        exact h2.drop hρ x.na
       cases y with
       | norm=>
         simp only at hr⊢
         cases hw:Zt s2.h e1 mf.results with
         | none=>rw[hw]at hr;cases hr
         | some w=>rw[hw]at hr;cases hr;exact fin hw rfl rfl
       | ret=>
         simp only at hr⊢
         cases hw:Zt s2.h e1 mf.results with
         | none=>rw[hw]at hr;cases hr
         | some w=>rw[hw]at hr;cases hr;exact fin hw rfl rfl
       | exit i=>cases hr
theorem Zix {f:Nat→Nat}:∀(ts:List Nat) (vs:List AV) (e:Env),L6 (mvE f e) ts (vs.map (AV.mv f))=mvE f (L6 e ts vs)
 | [],_,e=>by cases ‹List AV› <;> rfl
 | t::ts,[],e=>rfl
 | t::ts,v::vs,e=>by
   simp only[List.map_cons,L6]
   exact Zix ts vs (R5 e t v)
theorem Ztd (hρ:ρ.ok) {ex:ExF} (hx:Zsq ρ F ex) {l:Nat} {args:List AV} {v:AV} {s1:St} (x:Sim ρ F s S) (hr:N8 ex l args s=some (v,s1)):
  ∃S1,N8 ex (ρ.f l) (args.map (AV.mv ρ.f)) S=some (v.mv ρ.f,S1)∧Sim ρ F s1 S1∧Gr s s1:=by
 unfold N8 at hr⊢
 cases hg:Zh s.h l with
 | none=>rw[hg]at hr;cases hr
 | some o=>
   rw[x.get hg]
   have hfr:=x.frC l o hg
   rw[hg]at hr
   cases o with
   | loop z env ps as bd=>
     simp only[Qb.frC,Bool.and_eq_true]at hfr
     cases z with
     | ready=>
       simp only[Qb.mv,List.length_map]at hr⊢
       split at hr
       case isFalse=>cases hr
       rename_i hl
       rw[if_pos hl,Zix]
       cases ha:ex as (L6 env ps args) s with
       | none=>rw[ha]at hr;cases hr
       | some p=>
         obtain⟨y,e2,s2⟩:=p
         obtain⟨S2,h1,h2,h3⟩:=hx _ hfr.1 _ _ _ _ _ ha _ x
         rw[ha]at hr
         rw[h1]
         cases y with
         | norm=>
           simp only at hr⊢
           cases hg2:Zh s2.h l with
           | none=>rw[hg2]at hr;cases hr
           | some o2=>
             rw[h2.get hg2]
             have hfr2:=h2.frC l o2 hg2
             rw[hg2]at hr
             cases o2 with
             | loop z2 env1 ps1 as1 bd1=>
               cases z2 with
               | ready=>
                 simp only[Qb.mv]at hr⊢
                 obtain⟨hh2,m2⟩:=s2
                 obtain⟨H2,M2⟩:=S2
                 have h4:=h2.set hρ (o:= .loop .busy env1 ps1 as1 bd1) hg2 hfr2
                 simp only at hr⊢
                 cases hb:ex bd e2 ⟨Z7 hh2 l (.loop .busy env1 ps1 as1 bd1),m2⟩with
                 | none=>rw[hb]at hr;cases hr
                 | some p3=>
                   obtain⟨y3,e3,s3⟩:=p3
                   obtain⟨S3,h5,h6,h7⟩:=hx _ hfr.2 _ _ _ _ _ hb _ h4
                   rw[hb]at hr
                   simp only[Qb.mv]at h5
                   rw[h5]
                   simp only at hr⊢
                   cases hg3:Zh s3.h l with
                   | none=>rw[hg3]at hr;cases hr
                   | some o3=>
                     rw[h6.get hg3]
                     have hfr3:=h6.frC l o3 hg3
                     rw[hg3]at hr
                     obtain⟨hh3,m3⟩:=s3
                     obtain⟨H3,M3⟩:=S3
                     have gr:=(h3.trans (Gr.set (s:=⟨hh2,m2⟩) (n:=l) (o:= .loop .busy env1 ps1 as1 bd1))).trans h7
                     cases o3 with
                     | loop z3 env2 ps2 as2 bd2=>
                       cases z3 with
                       | busy=>
                         simp only[Qb.mv]at hr⊢
                         cases y3 with
                         | norm=>
                           simp only[Option.some.injEq,Prod.mk.injEq]at hr⊢
                           obtain⟨rfl,rfl⟩:=hr
                           refine⟨_,⟨by simp[AV.mv],rfl⟩,?_,gr.trans Gr.set⟩
                           have:=h6.set hρ (o:= .loop .ready env2 ps2 as2 bd2) hg3 hfr3
                           simpa [Qb.mv] using this
                         | exit i=>
                           simp only[Option.some.injEq,Prod.mk.injEq]at hr⊢
                           obtain⟨rfl,rfl⟩:=hr
                           refine⟨_,⟨by simp[AV.mv],rfl⟩,?_,gr.trans Gr.set⟩
                           have:=h6.set hρ (o:= .loop (.done (.exit i)) env2 ps2 as2 bd2) hg3 hfr3
                           simpa [Qb.mv] using this
                         | ret=>
                           simp only[Option.some.injEq,Prod.mk.injEq]at hr⊢
                           obtain⟨rfl,rfl⟩:=hr
                           refine⟨_,⟨by simp[AV.mv],rfl⟩,?_,gr.trans Gr.set⟩
                           have:=h6.set hρ (o:= .loop (.done .ret) env2 ps2 as2 bd2) hg3 hfr3
                           simpa [Qb.mv] using this
                       | _=>cases hr
                     | _=>cases hr
               | _=>cases hr
             | _=>cases hr
         | _=>cases hr
     | _=>cases hr
   | _=>cases hr
theorem Zmq (hρ:ρ.ok) (hT:Zir T) {ex:ExF} (hx:Zsq ρ F ex):Znc ρ F (Jb T ex):=by
 intro a args s v s1 hr S x
 unfold Jb at hr⊢
 cases a with
 | fn k fi cp=>
   simp only[AV.mv,W2]at hr⊢
   rw[←List.map_append,←List.map_append]
   exact Ztc hρ hT hx x hr
 | yield l=>
   simp only[AV.mv]at hr⊢
   exact Ztd hρ hx x hr
 | _=>cases hr
theorem Zwu {f:Nat→Nat} {ks:List Nat} {e e':Env} (h:Ziq ks e e'):Ziq ks (mvE f e) (mvE f e'):=fun r hr=>by rw[Nv,Nv,h r hr]
theorem Zaax (hρ:ρ.ok) {s' S':St} (x:Sim ρ F s S) (x':Sim ρ F s' S') (h:Znf s.h s'.h):Znf S.h S'.h:=fun m o ho=>by
 by_cases hm:∃n,ρ.f n=m∧¬ρ.P n
 ·obtain⟨n,rfl,hn⟩:=hm
  rw[x.obj n hn]at ho
  rw[x'.obj n hn]
  cases hg:Zh s.h n with
  | none=>rw[hg]at ho;cases ho
  | some p=>
    rw[hg]at ho
    rw[h n p hg]
    exact ho
 ·have h2:∀n,ρ.f n=m→ρ.P n:=fun n e=>Classical.byContradiction fun h=>hm ⟨n,e,h⟩
  rw[x.out m h2]at ho
  rw[x'.out m h2,ho]
theorem Zm3 (hρ:ρ.ok) {f:Qx} (hf:Znc ρ F f) {ex:ExF} (hx:Zsq ρ F ex) {nx more pair:Nat} {post:List MI} {ks:List Nat} {body:Zv} (hp:(post.all fun i=>i.op.fr)=true) (hb:body.fr=true) {e:Env} (x:Sim ρ F s S):
  ∀{es:List (AV×AV)},rounds f ex nx more pair post ks body e s es=some ()→rounds f ex nx more pair post ks body (mvE ρ.f e) S (es.map fun p=>(p.1.mv ρ.f,p.2.mv ρ.f))=some ()
 | [],_=>rfl
 | (k,v)::r,hr=>by
   simp only[List.map_cons,rounds]at hr⊢
   have he:R5 (R5 (R5 (mvE ρ.f e) nx (.tuple [.bool true,.bot,.bot])) more (.bool true)) pair (.tuple [k.mv ρ.f,v.mv ρ.f])=mvE ρ.f (R5 (R5 (R5 e nx (.tuple [.bool true,.bot,.bot])) more (.bool true)) pair (.tuple [k,v])):=by
    simp only[R5,Zrf,AV.mv,AV.mvs]
   rw[he]
   split at hr
   case h_2=>cases hr
   rename_i e2 st2 h1
   obtain⟨S2,h3,h4,_⟩:=Zap hρ hf hp h1 x
   rw[h3]
   simp only
   split at hr
   case h_2=>cases hr
   rename_i e' s' h5
   obtain⟨S3,h6,h7,_⟩:=hx _ hb _ _ _ _ _ h5 _ h4
   rw[h6]
   simp only
   split at hr
   case isFalse=>cases hr
   rename_i h8
   rw[if_pos ⟨Zwu h8.1,Zaax hρ x h7 h8.2⟩]
   exact Zm3 hρ hf hx hp hb x hr
theorem Zvt (hρ:ρ.ok) (hT:Zir T) {ex:ExF} (hx:Zsq ρ F ex):Zsq ρ F (Zz T ex):=by
 have hc:=Zmq (T:=T) hρ hT hx
 intro c hfr e s x e1 s1 hr S hs
 cases c with
 | skip=>cases hr;exact⟨S,rfl,hs,Gr.refl _⟩
 | exit i=>cases hr;exact⟨S,rfl,hs,Gr.refl _⟩
 | ret=>cases hr;exact⟨S,rfl,hs,Gr.refl _⟩
 | Zd l=>cases hr;exact⟨S,by simp only[Zz,Zf9],hs,Gr.refl _⟩
 | stuck=>cases hr
 | Ze l=>
   simp only[Zz]at hr⊢
   split at hr
   case h_2=>cases hr
   rename_i e2 s2 h1
   cases hr
   obtain⟨S1,h2,h3,h4⟩:=Zap hρ hc (show (l.all fun i=>i.op.fr)=true from hfr) h1 hs
   rw[h2]
   exact⟨S1,rfl,h3,h4⟩
 | Kv l=>
   simp only[Zz]at hr⊢
   split at hr
   case h_2=>cases hr
   rename_i e2 s2 h1
   cases hr
   obtain⟨hh,m⟩:=s
   obtain⟨H,M⟩:=S
   have hM:=hs.nx
   simp only at hM h1
   obtain⟨S1,h2,h3,h4,h5⟩:=Zpm hρ hc (d:=[]) (show l.all RI.fr=true from hfr) (fun p hp=>by cases hp) hs.na (Nat.le_refl _) (fun n k1 k2=>by
    cases hg:Zh hh n with
    | none=>rfl
    | some o=>exact absurd (hs.w.lt n o hg) (by simpa using k1)) h1 (hs.up l.length)
   simp only at h2 h4 h5⊢
   rw[hM]at h2⊢
   rw[h2]
   exact⟨S1,rfl,h3,Nat.le_trans (Nat.le_add_right _ _) h4,h5⟩
 | seq a b=>
   simp only[Zv.fr,Bool.and_eq_true]at hfr
   by_cases hk:∃l,a= .Zd l
   ·obtain⟨l,rfl⟩:=hk
    simp only[Zz,Zf9]at hr⊢
    exact hx _ hfr.2 _ _ _ _ _ hr _ hs
   ·have e0:∀(ex:ExF) (e:Env) (st:St),Zz T ex (.seq a b) e st=(match ex a e st with | some (.norm,e,st)=>ex b e st | r=>r):=by
     intro ex e st
     cases a <;> first | rfl | exact absurd ⟨_,rfl⟩ hk
    rw[e0]at hr⊢
    cases ha:ex a e s with
    | none=>rw[ha]at hr;cases hr
    | some p=>
      obtain⟨y,e2,s2⟩:=p
      obtain⟨S2,h1,h2,h3⟩:=hx _ hfr.1 _ _ _ _ _ ha _ hs
      rw[ha]at hr
      rw[h1]
      cases y with
      | norm=>
        simp only at hr⊢
        obtain⟨S3,h4,h5,h6⟩:=hx _ hfr.2 _ _ _ _ _ hr _ h2
        exact⟨S3,h4,h5,h3.trans h6⟩
      | exit i=>cases hr;exact⟨S2,rfl,h2,h3⟩
      | ret=>cases hr;exact⟨S2,rfl,h2,h3⟩
 | cond y a b=>
   simp only[Zv.fr,Bool.and_eq_true]at hfr
   simp only[Zz,Q3 hfr.1]at hr⊢
   cases hy:AO.ev e y with
   | bool v=>
     rw[hy]at hr
     cases v
     ·simp only[AV.mv]at hr⊢
      exact hx _ hfr.2.2 _ _ _ _ _ hr _ hs
     ·simp only[AV.mv]at hr⊢
      exact hx _ hfr.2.1 _ _ _ _ _ hr _ hs
   | _=>rw[hy]at hr;cases hr
 | block i b=>
   simp only[Zz]at hr⊢
   cases ha:ex b e s with
   | none=>rw[ha]at hr;cases hr
   | some p=>
     obtain⟨y,e2,s2⟩:=p
     obtain⟨S2,h1,h2,h3⟩:=hx _ (show b.fr=true from hfr) _ _ _ _ _ ha _ hs
     rw[ha]at hr
     rw[h1]
     cases y with
     | norm=>cases hr;exact⟨S2,rfl,h2,h3⟩
     | ret=>cases hr;exact⟨S2,rfl,h2,h3⟩
     | exit j=>
       simp only at hr⊢
       split at hr
       ·rename_i hj
        rw[if_pos hj]
        cases hr
        exact⟨S2,rfl,h2,h3⟩
       ·rename_i hj
        rw[if_neg hj]
        cases hr
        exact⟨S2,rfl,h2,h3⟩
 | loop b=>
   simp only[Zz]at hr⊢
   cases ha:ex b e s with
   | none=>rw[ha]at hr;cases hr
   | some p=>
     obtain⟨y,e2,s2⟩:=p
     obtain⟨S2,h1,h2,h3⟩:=hx _ (show b.fr=true from hfr) _ _ _ _ _ ha _ hs
     rw[ha]at hr
     rw[h1]
     cases y with
     | norm=>
       simp only at hr⊢
       obtain⟨S3,h4,h5,h6⟩:=hx (.loop b) hfr _ _ _ _ _ hr _ h2
       exact⟨S3,h4,h5,h3.trans h6⟩
     | exit i=>cases hr;exact⟨S2,rfl,h2,h3⟩
     | ret=>cases hr;exact⟨S2,rfl,h2,h3⟩
 | scope b=>
   simp only[Zz]at hr⊢
   exact hx _ (show b.fr=true from hfr) _ _ _ _ _ hr _ hs
 | rangeFunc f ps as bd=>
   simp only[Zv.fr,Bool.and_eq_true]at hfr
   simp only[Zz,Q3 hfr.1]at hr⊢
   split at hr
   case h_2=>cases hr
   rename_i w s2 h1
   obtain⟨hh,m⟩:=s
   obtain⟨H,M⟩:=S
   have hM:=hs.nx
   simp only at hM h1 hr⊢
   have hn:=hs.new hρ (o:= .loop .ready e ps as bd) (by simp[Qb.frC,hfr.2])
   obtain⟨S2,h2,h3,h4⟩:=hc _ _ _ _ _ h1 _ hn
   simp only[List.map_cons,List.map_nil,AV.mv,Qb.mv]at h2
   rw[←hM]at h2
   rw[h2]
   have gr:=(Gr.cons (s:=⟨hh,m⟩) (o:= .loop .ready e ps as bd)).trans h4
   simp only
   cases hg:Zh s2.h m with
   | none=>rw[hg]at hr;cases hr
   | some q=>
     have ho:=h3.get hg
     rw[←hM]at ho
     rw[ho]
     rw[hg]at hr
     obtain⟨hh2,m2⟩:=s2
     obtain⟨H2,M2⟩:=S2
     have hd:=h3.del hρ hg
     rw[←hM]at hd
     cases q with
     | loop z env ps' as' bd'=>
       cases z with
       | ready=>cases hr;exact⟨_,rfl,hd,gr.trans Gr.del⟩
       | done y=>cases hr;exact⟨_,rfl,hd,gr.trans Gr.del⟩
       | busy=>cases hr
     | _=>cases hr
 | rangeMap pre mm d nx more pair post ks out next body=>
   simp only[Zv.fr,Bool.and_eq_true]at hfr
   obtain⟨f1,f2,f3,f4⟩:=hfr
   simp only[Zz]at hr⊢
   split at hr
   case h_2=>cases hr
   rename_i e2 s2 h1
   obtain⟨S2,h2,h3,h4⟩:=Zap hρ hc f1 h1 hs
   simp only[h2,Q3 f2]
   cases hm:AO.ev e2 mm with
   | map n=>
     rw[hm]at hr
     simp only[AV.mv]at hr⊢
     cases hg:Zh s2.h n with
     | none=>rw[hg]at hr;cases hr
     | some q=>
       rw[h3.get hg]
       rw[hg]at hr
       cases q with
       | map es=>
         simp only[Qb.mv]at hr⊢
         obtain⟨hh2,m2⟩:=s2
         obtain⟨H2,M2⟩:=S2
         have hM:=h3.nx
         simp only at hM hr⊢
         split at hr
         case h_2=>cases hr
         rename_i h5
         cases hr
         have hd:=(h3.del hρ hg).up 1
         have h6:=Zm3 hρ hc hx f3 f4 hd h5
         have he:((d,AV.ptr M2 0)::X3 ks (mvE ρ.f e2))=mvE ρ.f ((d,AV.ptr m2 0)::X3 ks e2):=by rw[Zrf,Zf9,AV.mv,hM]
         rw[he,h6]
         exact⟨_,rfl,hd,(h4.trans Gr.del).trans ⟨Nat.le_succ _,fun _ _ h=>h⟩⟩
       | _=>cases hr
   | _=>rw[hm]at hr;cases hr
theorem Zut (hρ:ρ.ok) (hT:Zir T):∀n,Zsq ρ F (exec T n)
 | 0=>fun _ _ _ _ _ _ _ h=>by cases h
 | n+1=>Zvt hρ hT (Zut hρ hT n)
theorem Zxr (hρ:ρ.ok) (hT:Zir T) (n:Nat):Znc ρ F (Jb T (exec T n)):=Zmq hρ hT (Zut hρ hT n)
end
end Go.Ev

/- Names changed: a call that the kernel has run, used in any state. -/
namespace Go.Ev
open Go
structure TLe (T0 T:Tab):Prop where
 en:∀k E,T0.en k=some E→T.en k=some E
 fn:∀k mf,T0.en k=none→T0.fn k=some mf→T.en k=none∧T.fn k=some mf
theorem Zlk {T0 T:Tab} (hle:TLe T0 T) {f g:ExF} (h:ELe f g) {k:Nat} {args:List AV} {st:St} {r:AV×St} (hr:W1 T0 f k args st=some r):W1 T g k args st=some r:=by
 unfold W1 at hr⊢
 cases hen:T0.en k with
 | some E=>
   rw[hen]at hr
   rw[hle.en k E hen]
   exact hr
 | none=>
   rw[hen]at hr
   simp only at hr
   cases hfn:T0.fn k with
   | none=>rw[hfn]at hr;cases hr
   | some mf=>
     obtain⟨h1,h2⟩:=hle.fn k mf hen hfn
     rw[hfn]at hr
     rw[h1,h2]
     simp only at hr⊢
     split at hr
     case isFalse=>cases hr
     rename_i hl
     rw[if_pos hl]
     split at hr <;> rename_i h3
     ·rw[h _ _ _ _ h3];exact hr
     ·rw[h _ _ _ _ h3];exact hr
     ·cases hr
theorem Zdv {T0 T:Tab} (hle:TLe T0 T) {f g:ExF} (h:ELe f g):CLe (Jb T0 f) (Jb T g):=by
 intro a args st r hr
 unfold Jb at hr⊢
 split at hr
 ·exact Zlk hle h hr
 ·exact Zdw h hr
 ·cases hr
theorem Zn0 {T0 T:Tab} {f g:ExF} (h:ELe f g) (hc:CLe (Jb T0 f) (Jb T g)):ELe (Zz T0 f) (Zz T g):=by
 intro c e st r hr
 cases c with
 | skip=>exact hr
 | Ze l=>
   simp only[Zz]at hr⊢
   split at hr <;> rename_i h1
   ·rw[Wq hc h1];exact hr
   ·cases hr
 | Kv l=>
   simp only[Zz]at hr⊢
   split at hr <;> rename_i h1
   ·rw[Oc hc h1];exact hr
   ·cases hr
 | seq a b=>
   by_cases hk:∃l,a= .Zd l
   ·obtain⟨l,rfl⟩:=hk
    simp only[Zz]at hr⊢
    exact h _ _ _ _ hr
   ·have e1:∀(T:Tab) (ex:ExF),Zz T ex (.seq a b) e st=(match ex a e st with | some (.norm,e,st)=>ex b e st | r=>r):=by
     intro T ex
     cases a <;> first | rfl | exact absurd ⟨_,rfl⟩ hk
    rw[e1]at hr⊢
    split at hr <;> rename_i h1
    ·rw[h _ _ _ _ h1];exact h _ _ _ _ hr
    ·rw[h _ _ _ _ hr]
     split
     ·rename_i e2 st2 heq
      exact absurd hr (by rw[heq];exact h1 e2 st2)
     ·rfl
 | cond x a b=>
   simp only[Zz]at hr⊢
   split at hr
   ·exact h _ _ _ _ hr
   ·exact h _ _ _ _ hr
   ·cases hr
 | block i b=>
   simp only[Zz]at hr⊢
   split at hr <;> rename_i h1
   ·rw[h _ _ _ _ h1];exact hr
   ·rw[h _ _ _ _ hr]
    split
    ·rename_i i2 e2 st2 heq
     exact absurd hr (by rw[heq];exact h1 i2 e2 st2)
    ·rfl
 | loop b=>
   simp only[Zz]at hr⊢
   split at hr <;> rename_i h1
   ·rw[h _ _ _ _ h1];exact h _ _ _ _ hr
   ·rw[h _ _ _ _ hr]
    split
    ·rename_i e2 st2 heq
     exact absurd hr (by rw[heq];exact h1 e2 st2)
    ·rfl
 | scope b=>simp only[Zz]at hr⊢;exact h _ _ _ _ hr
 | rangeFunc f ps a b=>
   simp only[Zz]at hr⊢
   split at hr <;> rename_i h1
   ·rw[hc _ _ _ _ h1];exact hr
   ·cases hr
 | exit i=>exact hr
 | ret=>exact hr
 | Zd l=>exact hr
 | rangeMap pre m d nx more pair post ks out next body=>
   simp only[Zz]at hr⊢
   split at hr
   case h_2=>cases hr
   rename_i h1
   simp only[Wq hc h1]
   split at hr
   case h_2=>cases hr
   rename_i h2
   split at hr
   case h_2=>cases hr
   rename_i h3
   split at hr
   case h_2=>cases hr
   rename_i h4
   rw[E3 hc h h4]
   exact hr
 | stuck=>exact hr
theorem Zn2 {T0 T:Tab} (hle:TLe T0 T):∀n,ELe (exec T0 n) (exec T n)
 | 0=>fun _ _ _ _ h=>by cases h
 | n+1=>Zn0 (Zn2 hle n) (Zdv hle (Zn2 hle n))
theorem Zvm {T0 T:Tab} (hle:TLe T0 T) {n:Nat}:CLe (Jb T0 (exec T0 n)) (call T):=fun a args st r h=>
 Zdv hle (fun c e s r h=>Zgy T n c e s r (Zn2 hle n c e s r h)) a args st r h
def FT.frB:FT→Bool
 | .nil=>true
 | .node l _ v r=>l.frB && (v.body.fr && r.frB)
theorem FT.Zti:∀{t:FT},t.frB=true→t.All fun _ mf=>mf.body.fr=true
 | .nil,_=>trivial
 | .node l k v r,h=>by
   simp only[FT.frB,Bool.and_eq_true]at h
   exact⟨FT.Zti h.1,h.2.1,FT.Zti h.2.2⟩
theorem Zze {t:FT} {en:Nat→Option Entry} (h:t.frB=true) (he:∀k E,en k=some E→ESim E):Zir ⟨t.get,en⟩:=⟨fun _ _ hf=>FT.Zdy (FT.Zti h) hf,he⟩
def Zpa:Heap→Bool
 | []=>true
 | (_,o)::h=>o.frC && Zpa h
theorem Zmz:∀{h:Heap},Zpa h=true→∀n o,Zh h n=some o→o.frC=true
 | (m,p)::h,hh,n,o,hg=>by
   simp only[Zpa,Bool.and_eq_true]at hh
   simp only[Zh]at hg
   split at hg
   ·cases hg;exact hh.1
   ·exact Zmz hh.2 n o hg
def gOf:List (Nat×Nat)→Nat→Nat
 | [],n=>n
 | (a,b)::r,n=>if n=a then b else gOf r n
def Gy (s0 st:St) (g:Nat→Nat):Mv:=⟨s0.nx,g,st.nx,fun n=>n<s0.nx∧Zh s0.h n=none⟩
theorem Zsz {T0 T:Tab} (hle:TLe T0 T) (hT:Zir T0) {n:Nat} {a:AV} {args:List AV} {s0 s1:St} {v:AV} (hrun:Jb T0 (exec T0 n) a args s0=some (v,s1)) {st:St} (hw:st.Wf) (hw0:s0.Wf) (hfr:Zpa s0.h=true) {g:Nat→Nat}
  (hok:(Gy s0 st g).ok) (hobj:∀n o,Zh s0.h n=some o→Zh st.h ((Gy s0 st g).f n)=some (o.mv (Gy s0 st g).f)):
  ∃S,call T (a.mv (Gy s0 st g).f) (args.map (AV.mv (Gy s0 st g).f)) st=some (v.mv (Gy s0 st g).f,S)∧Sim (Gy s0 st g) (Zh st.h) s1 S∧Gr s0 s1:=by
 have hx:Sim (Gy s0 st g) (Zh st.h) s0 st:=by
  refine⟨Nat.le_refl _,?_,hw0,hw,fun n hn=> ?_,fun n hn=>hn.2,fun m _=>rfl,Zmz hfr⟩
  ·show st.nx=(Gy s0 st g).f s0.nx
   unfold Mv.f
   rw[if_neg (show¬s0.nx<(Gy s0 st g).a from Nat.lt_irrefl _)]
   show st.nx=s0.nx - s0.nx+st.nx
   omega
  ·cases hg:Zh s0.h n with
   | some o=>rw[hobj n o hg];rfl
   | none=>
     have hge:¬n<s0.nx:=fun h=>hn ⟨h,hg⟩
     cases h2:Zh st.h ((Gy s0 st g).f n)with
     | none=>rfl
     | some o=>
       have:=hw.lt _ _ h2
       unfold Mv.f at this
       rw[if_neg (show¬n<(Gy s0 st g).a from hge)]at this
       have h3:n - s0.nx+st.nx<st.nx:=this
       omega
 obtain⟨S,h1,h2,h3⟩:=Zxr (F:=Zh st.h) hok hT n _ _ _ _ _ hrun _ hx
 exact⟨S,Zvm hle _ _ _ _ h1,h2,h3⟩
theorem Sim.ext {s0 s1 st S:St} {g:Nat→Nat} (hw:st.Wf) (hok:(Gy s0 st g).ok) (hobj:∀n o,Zh s0.h n=some o→Zh st.h ((Gy s0 st g).f n)=some (o.mv (Gy s0 st g).f)) (x:Sim (Gy s0 st g) (Zh st.h) s1 S) (hk:∀n o,Zh s0.h n=some o→Zh s1.h n=some o):Ext st S:=by
 have hnx:st.nx≤S.nx:=by
  rw[x.nx]
  unfold Mv.f
  rw[if_neg (show¬s1.nx<(Gy s0 st g).a from Nat.not_lt.2 x.na)]
  exact Nat.le_add_left _ _
 refine⟨hnx,x.W,fun m hm=> ?_⟩
 by_cases h:∃n,(Gy s0 st g).f n=m∧¬(Gy s0 st g).P n
 ·obtain⟨n,rfl,hn⟩:=h
  have hlt:n<s0.nx:=by
   by_cases hl:n<s0.nx
   ·exact hl
   ·unfold Mv.f at hm
    rw[if_neg (show¬n<(Gy s0 st g).a from hl)]at hm
    have h3:n - s0.nx+st.nx<st.nx:=hm
    omega
  cases hg:Zh s0.h n with
  | none=>exact absurd ⟨hlt,hg⟩ hn
  | some o=>rw[x.obj n hn,hk n o hg,hobj n o hg];rfl
 ·exact x.out m (fun n e=>Classical.byContradiction fun h2=>h ⟨n,e,h2⟩)
def seen (k:Nat) (r:Option (AV×St)):Option (AV×List (Option Qb)):=
 match r with
 | some (v,s)=>some (v,(List.range k).map (Zh s.h))
 | none=>none
end Go.Ev

/- Names changed: slices of objects, cells and heaps; a heap that a small run has made. -/
namespace Go.Ev
open Go
section
variable {ρ : Mv} {F : Nat → Option Qb} {s S : St}
theorem Zag9 {f:Nat→Nat} (o:Qb):(o.mv f).ow=o.ow:=by
 cases o with
 | cells ty l cs=>cases l <;> rfl
 | _=>rfl
theorem Zbr.sim (x:Sim ρ F s S) {n:Nat} (a:Zbr s.h n):Zbr S.h (ρ.f n):=by
 obtain⟨o,h1,h2⟩:=a
 exact⟨_,x.get h1,by rw[Zag9];exact h2⟩
theorem RdS.sim (x:Sim ρ F s S) {es:Nat} {v:AV} {k:Nat} {cs:List AV} (a:RdS es s.h v k cs):RdS es S.h (v.mv ρ.f) k (cs.map (AV.mv ρ.f)):=by
 obtain⟨h0,⟨h1,h2⟩ | ⟨n,off,cp,h1,h2,h3,h4⟩⟩:=a
 ·exact⟨by simpa using h0,.inl ⟨by rw[h1];simp[AV.mv],h2⟩⟩
 ·exact⟨by simpa using h0,.inr ⟨ρ.f n,off,cp,by rw[h1];simp[AV.mv],h2,h3.sim x,x.Qg h4⟩⟩
theorem Zad9 {f:Nat→Nat} (o:Ob):o.A.map (AV.mv f)=o.A:=by simp[Ob.A,AV.mv]
theorem Zu7 {f:Nat→Nat}:∀l:List Ob,(Ku l).map (AV.mv f)=Ku l
 | []=>rfl
 | o::l=>by rw[Oa,List.map_append,Zad9,Zu7 l]
theorem RdO.sim (x:Sim ρ F s S) {v:AV} {l:List Ob} (a:RdO s.h v l):RdO S.h (v.mv ρ.f) l:=by
 have:=RdS.sim x a
 rw[Zu7]at this
 exact this
theorem CeR.sim (x:Sim ρ F s S) {c:Ce} {cs:List AV} (a:CeR s.h c cs):CeR S.h c (cs.map (AV.mv ρ.f)):=by
 obtain⟨p,q,r,rfl,h1,h2,h3⟩:=a
 exact⟨_,_,_,by simp[AV.mv],h1.sim x,h2.sim x,h3.sim x⟩
theorem U2.sim (x:Sim ρ F s S):∀{l:List Ce} {cs:List AV},U2 s.h l cs→U2 S.h l (cs.map (AV.mv ρ.f))
 | [],_,a=>by cases a;rfl
 | c::l,_,⟨y,r,e,h1,h2⟩=>⟨_,_,by rw[e,List.map_append],h1.sim x,U2.sim x h2⟩
theorem Zad6 {f:Nat→Nat} (v:AV):(v.mv f).nms=v.nms.map f:=by cases v <;> simp[AV.mv,AV.nms]
def capB (len:Nat):Cap→Bool
 | .known c=>decide (len≤c)
 | _=>true
def Zy9 (h:Heap) (n:Nat):Bool:=match Zh h n with | some o=>o.ow | none=>false
def rdsB (es:Nat) (h:Heap) (v:AV) (k:Nat):Option (List AV):=
 match v with
 | .Zc=>if k=0 then some []else none
 | .slice n off k' cp=>if k'=k∧capB k cp=true∧Zy9 h n=true then Qg h n off (k*es)else none
 | _=>none
theorem Zabg {es:Nat} {h:Heap} {v:AV} {k:Nat} {cs:List AV} (a:rdsB es h v k=some cs):RdS es h v k cs:=by
 unfold rdsB at a
 split at a
 ·split at a
  ·rename_i e;subst e;cases a;exact RdS.nil es h
  ·cases a
 ·split at a
  ·rename_i n off k' cp e
   obtain⟨rfl,e2,e3⟩:=e
   refine⟨Zhc a,.inr ⟨n,off,cp,rfl,?_,?_,a⟩⟩
   ·cases cp <;> simp_all [capB,Zc9]
   ·unfold Zy9 at e3
    split at e3
    ·exact⟨_,by assumption,e3⟩
    ·cases e3
  ·cases a
 ·cases a
def Zyz (h:Heap) (v:AV) (l:List Ob):Bool:=match rdsB 7 h v l.length with | some cs=>Hb cs (Ku l) | none=>false
theorem Zpj {h:Heap} {v:AV} {l:List Ob} (a:Zyz h v l=true):RdO h v l:=by
 unfold Zyz at a
 split at a
 ·rename_i cs e
  have:=Ij a
  subst this
  exact Zabg e
 ·cases a
def Zz6 (h:Heap):List Ce→List AV→Bool
 | [],[]=>true
 | c::l,a0::a1::a2::a3::a4::a5::a6::r=>Vg a0 (.int .i64 c.k) && (Vg a1 (.str c.b) && (Zyz h a2 c.it && (Zyz h a3 c.ks && (Zyz h a4 c.vs && (Vg a5 (.int .i64 c.mx) && (Vg a6 (.int .i64 c.at') && Zz6 h l r))))))
 | _,_=>false
theorem Zup {h:Heap}:∀{l:List Ce} {cs:List AV},Zz6 h l cs=true→U2 h l cs
 | [],[],_=>rfl
 | c::l,a0::a1::a2::a3::a4::a5::a6::r,a=>by
   simp only[Zz6,Bool.and_eq_true]at a
   obtain⟨e0,e1,e2,e3,e4,e5,e6,e7⟩:=a
   have h0:=Fc e0
   have h1:=Fc e1
   have h5:=Fc e5
   have h6:=Fc e6
   subst h0 h1 h5 h6
   exact⟨[_,_,a2,a3,a4,_,_],r,rfl,⟨a2,a3,a4,rfl,Zpj e2,Zpj e3,Zpj e4⟩,Zup e7⟩
def Zx9 (a:Nat) (hp:List Ce):Option (AV×St)→Bool
 | some (.slice n 0 k .full,s)=>
   match Zh s.h n with
   | some (.buf 486 7 cs)=>decide (k=hp.length) && (decide (a≤n) && (Zz6 s.h hp cs && !Po n (cs.flatMap AV.nms)))
   | _=>false
 | _=>false
theorem Zya (hρ:ρ.ok) {hp:List Ce} {v:AV} (h:Zx9 ρ.a hp (some (v,s))=true) (x:Sim ρ F s S) {st:St} (hN:st.nx=ρ.N):R8 st S (v.mv ρ.f) hp:=by
 unfold Zx9 at h
 split at h
 case h_2=>cases h
 rename_i n k s' e
 cases e
 split at h
 case h_2=>cases h
 rename_i cs hg
 simp only[Bool.and_eq_true,decide_eq_true_eq,Bool.not_eq_true']at h
 obtain⟨rfl,ha,hc,hmm⟩:=h
 have hces:=Zup hc
 have hg2:=x.get hg
 simp only[Qb.mv]at hg2
 refine⟨cs.map (AV.mv ρ.f),⟨⟨ρ.f n,.buf (by simp[AV.mv]) hg2 (by rw[List.length_map];exact hces.len)⟩,fun m hm=> ?_,fun a b c d e=>by simp[AV.mv]at e⟩,hces.sim x,fun m hm hv=> ?_⟩
 ·simp[AV.mv,AV.nms]at hm
  subst hm
  refine .inr ?_
  rw[hN]
  unfold Mv.f
  rw[if_neg (by omega)]
  omega
 ·simp[AV.mv,AV.nms]at hv
  subst hv
  obtain⟨y,hy,hn⟩:=List.mem_flatMap.1 hm
  obtain⟨z,hz,rfl⟩:=List.mem_map.1 hy
  rw[Zad6]at hn
  obtain⟨q,hq,e⟩:=List.mem_map.1 hn
  have:=hρ.Zv1 e
  subst this
  have h2:Po q (cs.flatMap AV.nms)=true:=Bj.2 (List.mem_flatMap.2 ⟨z,hz,hq⟩)
  rw[h2]at hmm
  cases hmm
end
end Go.Ev

/- Drafts of states told: the first cells, by a run of the kernel. -/
namespace Go.Ev
open Go
variable {T : Tab} {st st' : St}
def firstT:FT:= .node (.node .nil 354 B.Uj .nil) 397 B.Kg (.node .nil 398 B.Kh (.node .nil 399 B.J3 .nil))
def Ba:Tab:=⟨firstT.get,fun _=>none⟩
def Mq:St:=⟨[(9,.cells 9 false (Zaa [[97,100,100],[112,111,112]]))],10⟩
theorem Ztf:Zx9 10 Fy (Jb Ba (exec Ba 60) (.fn 354 [] []) [.slice 9 0 2 (.known 2)] Mq)=true:=by kernel_rfl
theorem Ztg:(match Jb Ba (exec Ba 60) (.fn 354 [] []) [.slice 9 0 2 (.known 2)] Mq with | some (_,s)=>Zh s.h 9 | none=>none)=some (.cells 9 false (Zaa [[97,100,100],[112,111,112]])):=by kernel_rfl
theorem Zx0:firstT.frB=true:=by kernel_rfl
theorem Zvv (H:B.Xn T):TLe Ba T:=⟨fun k E h=>(by cases h),fun k mf _ h=>by
 have hall:firstT.All fun k mf=>T.en k=none∧T.fn k=some mf:=⟨⟨trivial,⟨H.e,H.f⟩,trivial⟩,⟨H.Kg.e,H.Kg.f⟩,trivial,⟨H.Kh.e,H.Kh.f⟩,trivial,⟨H.J3.e,H.J3.f⟩,trivial⟩
 exact FT.Zdy hall h⟩
theorem Zvw (H:B.Xn T) (hwf:st.Wf) (h9:9≤st.nx) {m:Nat} (hm9:9≤m) (hm:Zh st.h m=some (.cells 9 false (Zaa [[97,100,100],[112,111,112]]))):
  Qt (call T (.fn 354 [] []) [.slice m 0 2 (.known 2)] st) fun r s=>Ext st s∧R8 st s r Fy:=by
 have hg:=Ztf
 have hk:=Ztg
 cases hr:Jb Ba (exec Ba 60) (.fn 354 [] []) [.slice 9 0 2 (.known 2)] Mq with
 | none=>rw[hr]at hg;cases hg
 | some p=>
   obtain⟨v,s1⟩:=p
   rw[hr]at hg hk
   simp only at hk
   have hml:=hwf.lt _ _ hm
   have hok:(Gy Mq st (gOf [(9,m)])).ok:=by
    refine⟨fun n k hn hk e=> ?_,fun n hn=> ?_,fun n hn=> ?_,fun n hn=>hn.1⟩
    ·have h1:n<10:=hn
     have h2:k<10:=hk
     simp only[Gy,gOf]at e
     split at e <;> split at e <;> omega
    ·have h1:n<10:=hn
     show gOf [(9,m)] n<st.nx
     simp only[gOf]
     split <;> omega
    ·unfold Mv.f
     rw[if_pos (show n<(Gy Mq st (gOf [(9,m)])).a from Nat.lt_trans hn (show 9<10 by omega))]
     show gOf [(9,m)] n=n
     simp only[gOf]
     rw[if_neg (by omega)]
   have hf9:(Gy Mq st (gOf [(9,m)])).f 9=m:=rfl
   have hw0:St.Wf Mq:=by
    refine⟨fun n o h=> ?_,by simp[Mq]⟩
    simp only[Mq,Zh]at h
    split at h
    ·show n<10;omega
    ·cases h
   have hobj:∀n o,Zh Mq.h n=some o→Zh st.h ((Gy Mq st (gOf [(9,m)])).f n)=some (o.mv (Gy Mq st (gOf [(9,m)])).f):=fun n o h=>by
    simp only[Mq,Zh]at h
    split at h
    ·rename_i e
     subst e
     cases h
     rw[hf9,hm]
     simp[Qb.mv,Zaa,AV.mv]
    ·cases h
   obtain⟨S,h1,h2,h3⟩:=Zsz (Zvv H) (Zze Zx0 (fun k E h=>by cases h)) hr hwf hw0 rfl hok hobj
   have hx:=Sim.ext hwf hok hobj h2 (fun n o h=>by
    simp only[Mq,Zh]at h
    split at h
    ·rename_i e;subst e;rw[hk,←h]
    ·cases h)
   have e1:(AV.fn 354 [] []).mv (Gy Mq st (gOf [(9,m)])).f= .fn 354 [] []:=by simp[AV.mv,AV.mvs]
   have e2:[AV.slice 9 0 2 (.known 2)].map (AV.mv (Gy Mq st (gOf [(9,m)])).f)=[.slice m 0 2 (.known 2)]:=by simp[AV.mv,hf9]
   rw[e1,e2]at h1
   rw[h1]
   exact⟨hx,Zya (ρ:=Gy Mq st (gOf [(9,m)])) hok hg h2 rfl⟩
end Go.Ev

/- Drafts of states told: the heap. -/
namespace Go.Ev
open Go
variable {T : Tab} {st st' : St}
theorem R8.le {st0 st1 s:St} {v:AV} {hp:List Ce} (a:R8 st1 s v hp) (h:st0.nx≤st1.nx):R8 st0 s v hp:=by
 obtain⟨cs,⟨h1,h2,h3⟩,h4,h5⟩:=a
 exact⟨cs,⟨h1,fun n hn=>by
  rcases h2 n hn with h | h
  ·cases h
  ·exact .inr (by omega),h3⟩,h4,h5⟩
theorem InW.sc {h:Heap} {v:AV} {l:List Wd} (a:InW h v l):v.sc=true:=by
 rcases a.1 with ⟨h1,_⟩ | ⟨n,off,cp,h1,_⟩ <;> rw[h1] <;> rfl
set_option maxHeartbeats 4000000 in
theorem Zlj (H:B.Vq T) (hwf:st.Wf) (h9:9≤st.nx) (hwd:Wrd st) {vc vo vd:AV} {ws:List Wd} (hd:InW st.h vc ws) (so:vo.sc=true) (sd:vd.sc=true):
  Qt (call T (.fn 309 [] []) [.agg [vc,vo,vd]] st) fun r s=>Ext st s∧HpR s.h r (Bi ws):=by
 refine Zw H.e H.f rfl ?_
 have sv:=hd.sc
 have x0:=(Ext.refl hwf).Zf (o:= .cells 430 true [vc,vo,vd]) (Nat.lt_succ_self st.nx)
 have x1:=x0.Zf (o:= .cells 9 false (Zaa [[97,100,100],[112,111,112]])) (Nat.lt_succ_self (st.nx+1))
 simp (disch:=omega) [B.Ks,go_sem]
 refine(Zvw H.Uj (st:=⟨(st.nx+1,.cells 9 false (Zaa [[97,100,100],[112,111,112]]))::(st.nx,.cells 430 true [vc,vo,vd])::st.h,st.nx+1+1⟩) x1.wf (by simp;omega) (m:=st.nx+1) (by omega) (by simp[Zg])).mono ?_
 rintro r s ⟨y1,g1⟩
 have z1:=x1.trans y1
 have k1:=y1.Zd st.nx (by show st.nx<st.nx+1+1;omega)
 have g2:=g1.le (st0:=st) (by simp;omega)
 have hk:Zh s.h st.nx=some (.cells 430 true [vc,vo,vd]):=by rw[k1];simp[Zg]
 have hn:st.nx∉r.nms:=fun h=>by have:=g1.ge _ h;simp at this;omega
 simp (disch:=omega) [go_sem,g1.sc]
 refine(Zaaq H hwf hwd hd (b1:=st.nx) (min ws.length 10) 0 r _ s (by omega) z1 (by simpa [Fk] using g2) hk hn (by simp[go_sem]) (by simp[go_sem]) (by simp[go_sem])).mono ?_
 rintro x e' s' ⟨rfl,x2,g3⟩
 simp (disch:=omega) [go_sem,g3.sc]
 exact⟨x2.Zb,g3.hp.Zb x2.wf⟩
end Go.Ev
