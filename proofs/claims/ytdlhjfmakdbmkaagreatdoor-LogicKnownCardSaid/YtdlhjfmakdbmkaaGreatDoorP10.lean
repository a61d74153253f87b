/- The law's own helpers told: wakes. Printed by gwl.py. -/
import Derived.Test.YtdlhjfmakdbmkaaGreatDoorP09
import Derived.KernelRfl
import Derived.Test.YtdlhjfmakdbmkaaGreatDoorP05
import Derived.Lib.SmallJoins
import Derived.Test.YtdlhjfmakdbmkaaGreatDoorP03
import Derived.Test.YtdlhjfmakdbmkaaGreatDoorP07
import Derived.Test.YtdlhjfmakdbmkaaGreatDoorProg
set_option linter.unusedSimpArgs false
set_option linter.unusedVariables false
set_option linter.unusedSectionVars false
namespace Go.Ev
open Go
variable {T : Tab} {st st' : St}
def InS (s1:St) (M a:Nat) (s:St):Prop:=Ext s1 s∧M≤s.nx∧∀n,a≤n→n<M→hget s.h n=none
theorem InS.start {s1:St} (hw:s1.Wf) {M:Nat} (h:s1.nx≤M):InS s1 M s1.nx ⟨s1.h,M⟩:=by
 refine⟨(Ext.refl hw).upN h,Nat.le_refl _,fun n h1 h2=> ?_⟩
 cases hg:hget s1.h n with
 | none=>rfl
 | some o=>exact absurd (hw.lt _ _ hg) (by omega)
theorem InS.call {s1 s s':St} {M a:Nat} (x:InS s1 M a s) (y:Ext s s'):InS s1 M a s':=by
 refine⟨x.1.trans y,Nat.le_trans x.2.1 y.nx,fun n h1 h2=> ?_⟩
 have:=x.2.1
 rw[y.keep n (by omega)]
 exact x.2.2 n h1 h2
theorem InS.new {s1:St} {h:Heap} {m M a:Nat} (x:InS s1 M a ⟨h,m⟩) (n:Nat) (o:AObj) (h0:s1.nx≤n) (h1:a≤n) (h2:n<M):InS s1 M (n+1) ⟨(n,o)::h,m⟩:=by
 have:=x.2.1
 refine⟨x.1.consF (x.2.2 n h1 h2) h0 (by simp only at this;omega),this,fun k h3 h4=> ?_⟩
 simp only[hget_cons]
 rw[if_neg (by omega)]
 exact x.2.2 k (by omega) h4
theorem InS.look {s1 s:St} {M a:Nat} (x:InS s1 M a s):∀n,n<s1.nx→hget s.h n=hget s1.h n:=x.1.keep
def wkS:List (List UInt8):=[[97,98],[98],[49,54,35,102,102],[97,98,99,100,101],[120]]
theorem wk0:givesB (strH wkS) [101,113] (obBool true) [obInt 1,obReal 65536]=true:=by kernel_rfl
theorem wk1:givesB (strH wkS) [108,116] (obBool true) [obS 0 [97,98],obS 1 [98]]=true:=by kernel_rfl
theorem wk2:givesB (strH wkS) [97,110,100] (obInt 8) [obInt 12,obInt 10]=true:=by kernel_rfl
theorem wk3:givesB (strH wkS) [110,111,116] (obInt (-13)) [obInt 12]=true:=by kernel_rfl
theorem wk4:givesB (strH wkS) [98,105,116,115,104,105,102,116] (obInt 3) [obInt 7,obInt (-1)]=true:=by kernel_rfl
theorem wk5:givesB (strH wkS) [99,118,105] (obInt 255) [obS 2 [49,54,35,102,102]]=true:=by kernel_rfl
theorem wk6:givesB (strH wkS) [99,118,114] (obReal 196608) [obInt 3]=true:=by kernel_rfl
theorem wk7:givesB (strH wkS) [116,121,112,101] ⟨5,true,0,[110,97,109,101,116,121,112,101],0,0,0⟩ [⟨5,false,0,[120],0,0,0⟩]=true:=by kernel_rfl
theorem wk8:writesB (strH wkS) [99,118,115] [45,49,50] [obInt (-12),obS 3 [97,98,99,100,101]]=true:=by kernel_rfl
theorem wk9:writesB (strH wkS) [99,118,114,115] [70,70] [obInt 255,obInt 16,obS 3 [97,98,99,100,101]]=true:=by kernel_rfl
theorem wk10:failsB (strH wkS) [99,118,105] 22 [obS 4 [120]]=true:=by kernel_rfl
theorem wk11:failsB (strH wkS) [108,116] 22 [obS 0 [97,98],obInt 1]=true:=by kernel_rfl
set_option maxHeartbeats 4000000 in
theorem wakes14_tells (H:B.H_chaselaw14_wakes T) (hwf:st.Wf) (hpw:Pow st) (hbr:Bru st):Tells T st (.fn 300 [] []) [] (.bool true):=by
 refine tells_of H.e H.f rfl ?_
 have x0:=(Ext.refl hwf).consN (o:= .cells 9 false (strsA wkS)) (Nat.lt_succ_self st.nx)
 simp (disch:=omega) [B.chaselaw14_wakes,go_sem]
 refine(strings_res H.chaselaw14_strings x0.wf (l:=wkS) (.inr ⟨_,_,_,rfl,rd_all (ty:=9) (l:=false) (by simp[hget_cons]) rfl⟩) (by decide)).mono ?_
 rintro w s1 ⟨x1,v,u,rfl,hh,ho⟩
 have y1:=x0.trans x1
 have w1:=y1.wf
 have hS:HpS (strH wkS):=strH_S (by decide) (by decide)
 have hp1:=hpw.ext y1 hwf
 have hb1:=hbr.ext y1 hwf
 obtain⟨n,off,ob,hat⟩:=ho.acc w1
 obtain⟨a1,a2,l0,m0⟩:=hat 0 (obS 0 [97,98]) (by decide) rfl
 simp only[show ((0:Int)).toNat=0 from rfl,Nat.reduceMul,Nat.add_zero]at l0 m0
 obtain⟨a1,a2,l1,m1⟩:=hat 1 (obS 1 [98]) (by decide) rfl
 simp only[show ((1:Int)).toNat=1 from rfl,Nat.reduceMul,Nat.add_zero]at l1 m1
 obtain⟨a1,a2,l2,m2⟩:=hat 2 (obS 2 [49,54,35,102,102]) (by decide) rfl
 simp only[show ((2:Int)).toNat=2 from rfl,Nat.reduceMul,Nat.add_zero]at l2 m2
 obtain⟨a1,a2,l3,m3⟩:=hat 3 (obS 3 [97,98,99,100,101]) (by decide) rfl
 simp only[show ((3:Int)).toNat=3 from rfl,Nat.reduceMul,Nat.add_zero]at l3 m3
 obtain⟨a1,a2,l4,m4⟩:=hat 4 (obS 4 [120]) (by decide) rfl
 simp only[show ((4:Int)).toNat=4 from rfl,Nat.reduceMul,Nat.add_zero]at l4 m4
 clear hat
 simp (disch:=omega) [go_sem,hh.sc,RdS.sc ho]
 obtain⟨M,hM⟩:∃M,s1.nx+108=M:=⟨_,rfl⟩
 rw[hM]
 have i0:=InS.start w1 (M:=M) (by omega)
 refine(bool14_tells H.chaselaw14_b i0.1.wf true).use fun q1 e1=> ?_
 have i1:=i0.call e1
 have k1:=i1.look
 simp (disch:=omega) [go_sem,reI,wanted,B.zOb,↓PO_iaddr,a2,l0,m0,l1,m1,l2,m2,l3,m3,l4,m4,k1]
 refine(int14_tells H.chaselaw14_i i1.1.wf (1)).use fun q2 e2=> ?_
 have i2:=i1.call e2
 have k2:=i2.look
 simp (disch:=omega) [go_sem,reI,wanted,B.zOb,↓PO_iaddr,a2,l0,m0,l1,m1,l2,m2,l3,m3,l4,m4,k1,k2]
 refine(real14_tells H.chaselaw14_r i2.1.wf (65536)).use fun q3 e3=> ?_
 have i3:=i2.call e3
 have k3:=i3.look
 simp (disch:=omega) [go_sem,reI,wanted,B.zOb,↓PO_iaddr,a2,l0,m0,l1,m1,l2,m2,l3,m3,l4,m4,k1,k2,k3]
 have i4:=i3.new (s1.nx) (.cells 451 false (obsA [obInt 1,obReal 65536])) (by omega) (by omega) (by omega)
 have t0:=gives14_tells H.chaselaw14_gives i4.1.wf (RdO.made (m:=s1.nx) (ty:=451) (l:=[obInt 1,obReal 65536]) (by simp[hget_cons]) rfl) (hh.ext i4.1 w1) (by decide) hS (hp1.ext i4.1 w1) (hb1.ext i4.1 w1) [101,113] (obBool true)
 rw[wk0]at t0
 refine(t0).use fun q5 e5=> ?_
 have i5:=i4.call e5
 have k5:=i5.look
 simp (disch:=omega) [go_sem,reI,wanted,B.zOb,↓PO_iaddr,a2,l0,m0,l1,m1,l2,m2,l3,m3,l4,m4,k2,k3,k5]
 refine(bool14_tells H.chaselaw14_b i5.1.wf true).use fun q6 e6=> ?_
 have i6:=i5.call e6
 have k6:=i6.look
 simp (disch:=omega) [go_sem,reI,wanted,B.zOb,↓PO_iaddr,a2,l0,m0,l1,m1,l2,m2,l3,m3,l4,m4,k3,k5,k6]
 have i7:=i6.new (s1.nx+1) (.cells 451 false (obsA [obS 0 [97,98],obS 1 [98]])) (by omega) (by omega) (by omega)
 have t1:=gives14_tells H.chaselaw14_gives i7.1.wf (RdO.made (m:=s1.nx+1) (ty:=451) (l:=[obS 0 [97,98],obS 1 [98]]) (by simp[hget_cons]) rfl) (hh.ext i7.1 w1) (by decide) hS (hp1.ext i7.1 w1) (hb1.ext i7.1 w1) [108,116] (obBool true)
 rw[wk1]at t1
 refine(t1).use fun q8 e8=> ?_
 have i8:=i7.call e8
 have k8:=i8.look
 simp (disch:=omega) [go_sem,reI,wanted,B.zOb,↓PO_iaddr,a2,l0,m0,l1,m1,l2,m2,l3,m3,l4,m4,k5,k6,k8]
 refine(int14_tells H.chaselaw14_i i8.1.wf (8)).use fun q9 e9=> ?_
 have i9:=i8.call e9
 have k9:=i9.look
 simp (disch:=omega) [go_sem,reI,wanted,B.zOb,↓PO_iaddr,a2,l0,m0,l1,m1,l2,m2,l3,m3,l4,m4,k6,k8,k9]
 refine(int14_tells H.chaselaw14_i i9.1.wf (12)).use fun q10 e10=> ?_
 have i10:=i9.call e10
 have k10:=i10.look
 simp (disch:=omega) [go_sem,reI,wanted,B.zOb,↓PO_iaddr,a2,l0,m0,l1,m1,l2,m2,l3,m3,l4,m4,k8,k9,k10]
 refine(int14_tells H.chaselaw14_i i10.1.wf (10)).use fun q11 e11=> ?_
 have i11:=i10.call e11
 have k11:=i11.look
 simp (disch:=omega) [go_sem,reI,wanted,B.zOb,↓PO_iaddr,a2,l0,m0,l1,m1,l2,m2,l3,m3,l4,m4,k9,k10,k11]
 have i12:=i11.new (s1.nx+2) (.cells 451 false (obsA [obInt 12,obInt 10])) (by omega) (by omega) (by omega)
 have t2:=gives14_tells H.chaselaw14_gives i12.1.wf (RdO.made (m:=s1.nx+2) (ty:=451) (l:=[obInt 12,obInt 10]) (by simp[hget_cons]) rfl) (hh.ext i12.1 w1) (by decide) hS (hp1.ext i12.1 w1) (hb1.ext i12.1 w1) [97,110,100] (obInt 8)
 rw[wk2]at t2
 refine(t2).use fun q13 e13=> ?_
 have i13:=i12.call e13
 have k13:=i13.look
 simp (disch:=omega) [go_sem,reI,wanted,B.zOb,↓PO_iaddr,a2,l0,m0,l1,m1,l2,m2,l3,m3,l4,m4,k10,k11,k13]
 refine(int14_tells H.chaselaw14_i i13.1.wf (-13)).use fun q14 e14=> ?_
 have i14:=i13.call e14
 have k14:=i14.look
 simp (disch:=omega) [go_sem,reI,wanted,B.zOb,↓PO_iaddr,a2,l0,m0,l1,m1,l2,m2,l3,m3,l4,m4,k11,k13,k14]
 refine(int14_tells H.chaselaw14_i i14.1.wf (12)).use fun q15 e15=> ?_
 have i15:=i14.call e15
 have k15:=i15.look
 simp (disch:=omega) [go_sem,reI,wanted,B.zOb,↓PO_iaddr,a2,l0,m0,l1,m1,l2,m2,l3,m3,l4,m4,k13,k14,k15]
 have i16:=i15.new (s1.nx+3) (.cells 451 false (obsA [obInt 12])) (by omega) (by omega) (by omega)
 have t3:=gives14_tells H.chaselaw14_gives i16.1.wf (RdO.made (m:=s1.nx+3) (ty:=451) (l:=[obInt 12]) (by simp[hget_cons]) rfl) (hh.ext i16.1 w1) (by decide) hS (hp1.ext i16.1 w1) (hb1.ext i16.1 w1) [110,111,116] (obInt (-13))
 rw[wk3]at t3
 refine(t3).use fun q17 e17=> ?_
 have i17:=i16.call e17
 have k17:=i17.look
 simp (disch:=omega) [go_sem,reI,wanted,B.zOb,↓PO_iaddr,a2,l0,m0,l1,m1,l2,m2,l3,m3,l4,m4,k14,k15,k17]
 refine(int14_tells H.chaselaw14_i i17.1.wf (3)).use fun q18 e18=> ?_
 have i18:=i17.call e18
 have k18:=i18.look
 simp (disch:=omega) [go_sem,reI,wanted,B.zOb,↓PO_iaddr,a2,l0,m0,l1,m1,l2,m2,l3,m3,l4,m4,k15,k17,k18]
 refine(int14_tells H.chaselaw14_i i18.1.wf (7)).use fun q19 e19=> ?_
 have i19:=i18.call e19
 have k19:=i19.look
 simp (disch:=omega) [go_sem,reI,wanted,B.zOb,↓PO_iaddr,a2,l0,m0,l1,m1,l2,m2,l3,m3,l4,m4,k17,k18,k19]
 refine(int14_tells H.chaselaw14_i i19.1.wf (-1)).use fun q20 e20=> ?_
 have i20:=i19.call e20
 have k20:=i20.look
 simp (disch:=omega) [go_sem,reI,wanted,B.zOb,↓PO_iaddr,a2,l0,m0,l1,m1,l2,m2,l3,m3,l4,m4,k18,k19,k20]
 have i21:=i20.new (s1.nx+4) (.cells 451 false (obsA [obInt 7,obInt (-1)])) (by omega) (by omega) (by omega)
 have t4:=gives14_tells H.chaselaw14_gives i21.1.wf (RdO.made (m:=s1.nx+4) (ty:=451) (l:=[obInt 7,obInt (-1)]) (by simp[hget_cons]) rfl) (hh.ext i21.1 w1) (by decide) hS (hp1.ext i21.1 w1) (hb1.ext i21.1 w1) [98,105,116,115,104,105,102,116] (obInt 3)
 rw[wk4]at t4
 refine(t4).use fun q22 e22=> ?_
 have i22:=i21.call e22
 have k22:=i22.look
 simp (disch:=omega) [go_sem,reI,wanted,B.zOb,↓PO_iaddr,a2,l0,m0,l1,m1,l2,m2,l3,m3,l4,m4,k19,k20,k22]
 refine(int14_tells H.chaselaw14_i i22.1.wf (255)).use fun q23 e23=> ?_
 have i23:=i22.call e23
 have k23:=i23.look
 simp (disch:=omega) [go_sem,reI,wanted,B.zOb,↓PO_iaddr,a2,l0,m0,l1,m1,l2,m2,l3,m3,l4,m4,k20,k22,k23]
 have i24:=i23.new (s1.nx+5) (.cells 451 false (obsA [obS 2 [49,54,35,102,102]])) (by omega) (by omega) (by omega)
 have t5:=gives14_tells H.chaselaw14_gives i24.1.wf (RdO.made (m:=s1.nx+5) (ty:=451) (l:=[obS 2 [49,54,35,102,102]]) (by simp[hget_cons]) rfl) (hh.ext i24.1 w1) (by decide) hS (hp1.ext i24.1 w1) (hb1.ext i24.1 w1) [99,118,105] (obInt 255)
 rw[wk5]at t5
 refine(t5).use fun q25 e25=> ?_
 have i25:=i24.call e25
 have k25:=i25.look
 simp (disch:=omega) [go_sem,reI,wanted,B.zOb,↓PO_iaddr,a2,l0,m0,l1,m1,l2,m2,l3,m3,l4,m4,k22,k23,k25]
 refine(real14_tells H.chaselaw14_r i25.1.wf (196608)).use fun q26 e26=> ?_
 have i26:=i25.call e26
 have k26:=i26.look
 simp (disch:=omega) [go_sem,reI,wanted,B.zOb,↓PO_iaddr,a2,l0,m0,l1,m1,l2,m2,l3,m3,l4,m4,k23,k25,k26]
 refine(int14_tells H.chaselaw14_i i26.1.wf (3)).use fun q27 e27=> ?_
 have i27:=i26.call e27
 have k27:=i27.look
 simp (disch:=omega) [go_sem,reI,wanted,B.zOb,↓PO_iaddr,a2,l0,m0,l1,m1,l2,m2,l3,m3,l4,m4,k25,k26,k27]
 have i28:=i27.new (s1.nx+6) (.cells 451 false (obsA [obInt 3])) (by omega) (by omega) (by omega)
 have t6:=gives14_tells H.chaselaw14_gives i28.1.wf (RdO.made (m:=s1.nx+6) (ty:=451) (l:=[obInt 3]) (by simp[hget_cons]) rfl) (hh.ext i28.1 w1) (by decide) hS (hp1.ext i28.1 w1) (hb1.ext i28.1 w1) [99,118,114] (obReal 196608)
 rw[wk6]at t6
 refine(t6).use fun q29 e29=> ?_
 have i29:=i28.call e29
 have k29:=i29.look
 simp (disch:=omega) [go_sem,reI,wanted,B.zOb,↓PO_iaddr,a2,l0,m0,l1,m1,l2,m2,l3,m3,l4,m4,k26,k27,k29]
 have i30:=i29.new (s1.nx+7) (.cells 451 false (obsA [⟨5,false,0,[120],0,0,0⟩])) (by omega) (by omega) (by omega)
 have t7:=gives14_tells H.chaselaw14_gives i30.1.wf (RdO.made (m:=s1.nx+7) (ty:=451) (l:=[⟨5,false,0,[120],0,0,0⟩]) (by simp[hget_cons]) rfl) (hh.ext i30.1 w1) (by decide) hS (hp1.ext i30.1 w1) (hb1.ext i30.1 w1) [116,121,112,101] ⟨5,true,0,[110,97,109,101,116,121,112,101],0,0,0⟩
 rw[wk7]at t7
 refine(t7).use fun q31 e31=> ?_
 have i31:=i30.call e31
 have k31:=i31.look
 simp (disch:=omega) [go_sem,reI,wanted,B.zOb,↓PO_iaddr,a2,l0,m0,l1,m1,l2,m2,l3,m3,l4,m4,k27,k29,k31]
 refine(int14_tells H.chaselaw14_i i31.1.wf (-12)).use fun q32 e32=> ?_
 have i32:=i31.call e32
 have k32:=i32.look
 simp (disch:=omega) [go_sem,reI,wanted,B.zOb,↓PO_iaddr,a2,l0,m0,l1,m1,l2,m2,l3,m3,l4,m4,k29,k31,k32]
 have i33:=i32.new (s1.nx+8) (.cells 451 false (obsA [obInt (-12),obS 3 [97,98,99,100,101]])) (by omega) (by omega) (by omega)
 have t8:=writes14_tells H.chaselaw14_writes i33.1.wf (RdO.made (m:=s1.nx+8) (ty:=451) (l:=[obInt (-12),obS 3 [97,98,99,100,101]]) (by simp[hget_cons]) rfl) (hh.ext i33.1 w1) (by decide) (by simp) hS (hp1.ext i33.1 w1) (hb1.ext i33.1 w1) [99,118,115] [45,49,50]
 rw[wk8]at t8
 refine(t8).use fun q34 e34=> ?_
 have i34:=i33.call e34
 have k34:=i34.look
 simp (disch:=omega) [go_sem,reI,wanted,B.zOb,↓PO_iaddr,a2,l0,m0,l1,m1,l2,m2,l3,m3,l4,m4,k31,k32,k34]
 refine(int14_tells H.chaselaw14_i i34.1.wf (255)).use fun q35 e35=> ?_
 have i35:=i34.call e35
 have k35:=i35.look
 simp (disch:=omega) [go_sem,reI,wanted,B.zOb,↓PO_iaddr,a2,l0,m0,l1,m1,l2,m2,l3,m3,l4,m4,k32,k34,k35]
 refine(int14_tells H.chaselaw14_i i35.1.wf (16)).use fun q36 e36=> ?_
 have i36:=i35.call e36
 have k36:=i36.look
 simp (disch:=omega) [go_sem,reI,wanted,B.zOb,↓PO_iaddr,a2,l0,m0,l1,m1,l2,m2,l3,m3,l4,m4,k34,k35,k36]
 have i37:=i36.new (s1.nx+9) (.cells 451 false (obsA [obInt 255,obInt 16,obS 3 [97,98,99,100,101]])) (by omega) (by omega) (by omega)
 have t9:=writes14_tells H.chaselaw14_writes i37.1.wf (RdO.made (m:=s1.nx+9) (ty:=451) (l:=[obInt 255,obInt 16,obS 3 [97,98,99,100,101]]) (by simp[hget_cons]) rfl) (hh.ext i37.1 w1) (by decide) (by simp) hS (hp1.ext i37.1 w1) (hb1.ext i37.1 w1) [99,118,114,115] [70,70]
 rw[wk9]at t9
 refine(t9).use fun q38 e38=> ?_
 have i38:=i37.call e38
 have k38:=i38.look
 simp (disch:=omega) [go_sem,reI,wanted,B.zOb,↓PO_iaddr,a2,l0,m0,l1,m1,l2,m2,l3,m3,l4,m4,k35,k36,k38]
 have i39:=i38.new (s1.nx+10) (.cells 451 false (obsA [obS 4 [120]])) (by omega) (by omega) (by omega)
 have t10:=fails14_tells H.chaselaw14_fails i39.1.wf (RdO.made (m:=s1.nx+10) (ty:=451) (l:=[obS 4 [120]]) (by simp[hget_cons]) rfl) (hh.ext i39.1 w1) (by decide) (by decide) (strH_L _) hS (hp1.ext i39.1 w1) (hb1.ext i39.1 w1) [99,118,105] 22 (by decide)
 rw[wk10]at t10
 refine(t10).use fun q40 e40=> ?_
 have i40:=i39.call e40
 have k40:=i40.look
 simp (disch:=omega) [go_sem,reI,wanted,B.zOb,↓PO_iaddr,a2,l0,m0,l1,m1,l2,m2,l3,m3,l4,m4,k36,k38,k40]
 refine(int14_tells H.chaselaw14_i i40.1.wf (1)).use fun q41 e41=> ?_
 have i41:=i40.call e41
 have k41:=i41.look
 simp (disch:=omega) [go_sem,reI,wanted,B.zOb,↓PO_iaddr,a2,l0,m0,l1,m1,l2,m2,l3,m3,l4,m4,k38,k40,k41]
 have i42:=i41.new (s1.nx+11) (.cells 451 false (obsA [obS 0 [97,98],obInt 1])) (by omega) (by omega) (by omega)
 have t11:=fails14_tells H.chaselaw14_fails i42.1.wf (RdO.made (m:=s1.nx+11) (ty:=451) (l:=[obS 0 [97,98],obInt 1]) (by simp[hget_cons]) rfl) (hh.ext i42.1 w1) (by decide) (by decide) (strH_L _) hS (hp1.ext i42.1 w1) (hb1.ext i42.1 w1) [108,116] 22 (by decide)
 rw[wk11]at t11
 refine(t11).use fun q43 e43=> ?_
 have i43:=i42.call e43
 have k43:=i43.look
 simp (disch:=omega) [go_sem,reI,wanted,B.zOb,↓PO_iaddr,a2,l0,m0,l1,m1,l2,m2,l3,m3,l4,m4,k40,k41,k43]
 exact y1.trans i43.1
end Go.Ev

/- Plain law: bits. -/
namespace Go.Ev
open Go
end Go.Ev

/- LogicTurns told. Printed by gwt.py. -/
namespace Go.Ev
open Go
variable {T : Tab} {st st' : St}
end Go.Ev

/- States compared. -/
namespace Go.Ev
open Go
variable {T : Tab} {st st' : St}
def zG:List AV:=(B.z457.drop 5).take 57
set_option maxHeartbeats 4000000 in
theorem sameG_zero (H:B.H_chaseref11_SameG T) (hwf:st.Wf):Tells T st (.fn 361 [] []) [.agg zG,.agg zG] (.bool true):=by
 refine tells_of H.e H.f rfl ?_
 have x0:=((Ext.refl hwf).consN (o:= .cells 453 true zG) (Nat.lt_succ_self st.nx)).consN (o:= .cells 453 true zG) (Nat.lt_succ_self (st.nx+1))
 have e6:cellsEqK [Kd.i .i64,Kd.i .i64,Kd.i .i64,Kd.i .i64,Kd.i .i64,Kd.i .i64] [AV.int .i64 0,AV.int .i64 0,AV.int .i64 0,AV.int .i64 0,AV.int .i64 0,AV.int .i64 0] [AV.int .i64 0,AV.int .i64 0,AV.int .i64 0,AV.int .i64 0,AV.int .i64 0,AV.int .i64 0]=some true:=by decide
 have e4:cellsEqK [Kd.i .i64,Kd.i .i64,Kd.i .i64,Kd.i .i64] [AV.int .i64 0,AV.int .i64 0,AV.int .i64 0,AV.int .i64 0] [AV.int .i64 0,AV.int .i64 0,AV.int .i64 0,AV.int .i64 0]=some true:=by decide
 have eO:=eqOb obZ obZ
 simp only[ksOb,Ob.A,decide_true,obZ]at eO
 have d:¬st.nx+1=st.nx:=by omega
 simp (disch:=omega) [B.chaseref11_SameG,go_sem,zG,B.z457,d,e6,e4,eO]
 exact((Ext.refl hwf).consN (Nat.lt_succ_self st.nx)).consN (Nat.lt_succ_self (st.nx+1))
set_option maxHeartbeats 4000000 in
theorem sameState14 (H:B.H_chaseref11_SameState T) (hwf:st.Wf) {va vb ha hb:AV} {a b:List Ob} {h k:List Ce} (ra:RdO st.h va a) (rb:RdO st.h vb b) (hha:HpR st.h ha h) (hhb:HpR st.h hb k) (hl:a.length<1000000000) (hl2:h.length<1000000000) (hL:HpL h):
  Tells T st (.fn 315 [] []) [.agg (va:: .nilslice::ha::zRest),.agg (vb:: .nilslice::hb::zRest)] (.bool (decide (a=b) && decide (h=k))):=by
 refine tells_of H.e H.f rfl ?_
 have x0:=((Ext.refl hwf).consN (o:= .cells 457 true (va:: .nilslice::ha::zRest)) (Nat.lt_succ_self st.nx)).consN (o:= .cells 457 true (vb:: .nilslice::hb::zRest)) (Nat.lt_succ_self (st.nx+1))
 have sa:=RdS.sc ra
 have sb:=RdS.sc rb
 have sha:=hha.sc
 have shb:=hhb.sc
 have d:¬st.nx+1=st.nx:=by omega
 have g0:hget ((st.nx+1,AObj.cells 457 true (vb:: .nilslice::hb::zRest))::(st.nx,AObj.cells 457 true (va:: .nilslice::ha::zRest))::st.h) st.nx=some (.cells 457 true (va:: .nilslice::ha::zRest)):=by simp[hget_cons,d]
 simp (disch:=omega) [B.chaseref11_SameState,go_sem,zRest,B.z457,d,sa,sb,sha,shb]
 refine(sameObjs_tells H.chaseref11_sameObjs x0.wf (ra.ext x0 hwf) (rb.ext x0 hwf) hl).use fun s1 x1=> ?_
 have k1:=x1.keep
 have y1:=x0.trans x1
 have n1:=x1.nx
 simp only at k1 n1
 by_cases hab:a=b
 case neg=>
  simp (disch:=omega) [go_sem,zRest,B.z457,d,k1,hab]
  exact y1
 simp (disch:=omega) [go_sem,zRest,B.z457,d,k1,eq_true hab]
 refine(sameObjs_tells H.chaseref11_sameObjs y1.wf (RdO.nil _) (RdO.nil _) (by simp)).use fun s2 x2=> ?_
 have k2:=x2.keep
 have y2:=y1.trans x2
 have n2:=x2.nx
 simp (disch:=omega) [go_sem,zRest,B.z457,d,k1,k2]
 refine(same11_tells H.chaseref11_Same y2.wf (hha.ext y2 hwf) (hhb.ext y2 hwf) hl2 hL).use fun s3 x3=> ?_
 have k3:=x3.keep
 have y3:=y2.trans x3
 have n3:=x3.nx
 by_cases hhk:h=k
 case neg=>
  simp (disch:=omega) [go_sem,zRest,B.z457,d,k1,k2,k3,hhk]
  exact y3
 simp (disch:=omega) [go_sem,zRest,B.z457,d,k1,k2,k3,eq_true hhk,show seq8 [] []=true from rfl]
 rw[run_loop]
 simp (disch:=omega) [B.chaseref11_SameState_l0,go_sem,zRest,B.z457,d,k1,k2,k3]
 rw[run_loop]
 simp (disch:=omega) [B.chaseref11_SameState_l1,go_sem,zRest,B.z457,d,k1,k2,k3]
 refine(sameG_zero H.chaseref11_SameG y3.wf).use fun s4 x4=> ?_
 have k4:=x4.keep
 have y4:=y3.trans x4
 simp (disch:=omega) [go_sem,zRest,B.z457,d,k1,k2,k3,k4]
 exact y4
end Go.Ev

/- LogicKnown told: its examples. Printed by gwk.py. -/
namespace Go.Ev
open Go
variable {T : Tab} {st st' : St}
theorem InS.startE {b c:St} {M:Nat} (x:Ext b c) (h:c.nx≤M):InS b M c.nx ⟨c.h,M⟩:=by
 refine⟨x.upN h,Nat.le_refl _,fun n h1 h2=> ?_⟩
 cases hg:hget c.h n with
 | none=>rfl
 | some o=>exact absurd (x.wf.lt _ _ hg) (by omega)
def z101:List UInt8:=List.replicate 101 0
theorem z101_len:101≤(reps [AV.int IntKind.u8 0] 101).length:=by decide
theorem z101_b:toBytes (List.take 101 (reps [AV.int IntKind.u8 0] 101))=some z101:=by kernel_rfl
def knS:List (List UInt8):=[[97],[57,57,57,57,57,57,57,57,57,57,57],[45,50,46,53,101,49],[97,98,99],[49,50,51,52,53,54,55,56],[97,98,99,100],z101,[49,46,53]]
def zObs:List Ob:=List.replicate 100 obZ
theorem zObs_len:zObs.length=100:=by decide
def knN:Ob:=⟨5,false,0,[97],0,0,0⟩
def knM:Ob:=⟨1,false,0,[],0,0,0⟩
def knE:Ob:=⟨6,true,0,[],3,0,3⟩
theorem kw0:givesB (strH knS) [101,113] (obBool true) [obS 0 [97],knN]=true:=by kernel_rfl
theorem kw1:givesB (strH knS) [101,113] (obBool false) [obInt 1,obBool true]=true:=by kernel_rfl
theorem kw2:givesB (strH knS) [103,101] (obBool true) [obInt 2,obReal 98304]=true:=by kernel_rfl
theorem kw3:givesB (strH knS) [108,101] (obBool true) [obS 0 [97],obS 0 [97]]=true:=by kernel_rfl
theorem kw4:givesB (strH knS) [103,116] (obBool false) [obS 0 [97],obS 3 [97,98,99]]=true:=by kernel_rfl
theorem kw5:givesB (strH knS) [110,101] (obBool true) [obInt 1,obInt 2]=true:=by kernel_rfl
theorem kw6:givesB (strH knS) [111,114] (obBool true) [obBool true,obBool false]=true:=by kernel_rfl
theorem kw7:givesB (strH knS) [98,105,116,115,104,105,102,116] (obInt 15) [obInt (-1),obInt (-28)]=true:=by kernel_rfl
theorem kw8:givesB (strH knS) [98,105,116,115,104,105,102,116] (obInt (-2147483648)) [obInt 1,obInt 31]=true:=by kernel_rfl
theorem kw9:givesB (strH knS) [98,105,116,115,104,105,102,116] (obInt 0) [obInt 1,obInt 32]=true:=by kernel_rfl
theorem kw10:givesB (strH knS) [98,105,116,115,104,105,102,116] (obInt 0) [obInt (-1),obInt (-2147483648)]=true:=by kernel_rfl
theorem kw11:givesB (strH knS) [120,111,114] (obInt (-1)) [obInt 5,obInt (-6)]=true:=by kernel_rfl
theorem kw12:givesB (strH knS) [110,111,116] (obBool false) [obBool true]=true:=by kernel_rfl
theorem kw13:givesB (strH knS) [99,118,114] (obReal (-1638400)) [obS 2 [45,50,46,53,101,49]]=true:=by kernel_rfl
theorem kw14:givesB (strH knS) [99,118,105] (obInt (-25)) [obS 2 [45,50,46,53,101,49]]=true:=by kernel_rfl
theorem kw15:givesB (strH knS) [99,118,105] (obInt 1) [obS 7 [49,46,53]]=true:=by kernel_rfl
theorem kw16:givesB (strH knS) [99,118,105] (obInt (-2)) [obReal (-180224)]=true:=by kernel_rfl
theorem kw17:givesB (strH knS) [99,118,110] ⟨5,true,0,[97,98,99],0,0,0⟩ [knE]=true:=by kernel_rfl
theorem kw18:givesB (strH knS) [110,117,108,108] obZ []=true:=by kernel_rfl
theorem kw19:givesB (strH knS) [116,114,117,101] (obBool true) []=true:=by kernel_rfl
theorem kw20:givesB (strH knS) [102,97,108,115,101] (obBool false) []=true:=by kernel_rfl
theorem kw21:writesB (strH knS) [99,118,115] [48,46,53] [obReal 32768,obS 5 [97,98,99,100]]=true:=by kernel_rfl
theorem kw22:writesB (strH knS) [99,118,114,115] [70,70,70,70,70,70,70,70] [obInt (-1),obInt 16,obS 4 [49,50,51,52,53,54,55,56]]=true:=by kernel_rfl
theorem kw23:writesB (strH knS) [99,118,114,115] [50,46,55,53] [obReal 180224,obInt 10,obS 5 [97,98,99,100]]=true:=by kernel_rfl
theorem kw24:writesB (strH knS) [99,118,114,115] [50] [obReal 180224,obInt 16,obS 5 [97,98,99,100]]=true:=by kernel_rfl
theorem kw25:writesB (strH knS) [99,118,115] [97] [knN,obS 0 [97]]=true:=by kernel_rfl
theorem kw26:writesB (strH knS) [99,118,115] [97,98,99] [obS 3 [97,98,99],obS 3 [97,98,99]]=true:=by kernel_rfl
theorem kw27:failsB (strH knS) [97,110,100] 22 [obInt 1,obBool true]=true:=by kernel_rfl
theorem kw28:failsB (strH knS) [110,111,116] 22 [obReal 65536]=true:=by kernel_rfl
theorem kw29:failsB (strH knS) [108,116] 22 [obInt 1,obS 0 [97]]=true:=by kernel_rfl
theorem kw30:failsB (strH knS) [108,116] 22 [knN,knN]=true:=by kernel_rfl
theorem kw31:failsB (strH knS) [99,118,105] 23 [obS 1 [57,57,57,57,57,57,57,57,57,57,57]]=true:=by kernel_rfl
theorem kw32:failsB (strH knS) [99,118,114] 23 [obS 1 [57,57,57,57,57,57,57,57,57,57,57]]=true:=by kernel_rfl
theorem kw33:failsB (strH knS) [99,118,114] 25 [obInt 40000]=true:=by kernel_rfl
theorem kw34:failsB (strH knS) [99,118,115] 23 [knM,obS 3 [97,98,99]]=true:=by kernel_rfl
theorem kw35:failsB (strH knS) [99,118,115] 22 [obS 3 [97,98,99],knN]=true:=by kernel_rfl
theorem kw36:failsB (strH knS) [99,118,114,115] 23 [obInt 1,obInt 37,obS 3 [97,98,99]]=true:=by kernel_rfl
theorem kw37:failsB (strH knS) [99,118,114,115] 23 [obInt 8,obInt 2,obS 3 [97,98,99]]=true:=by kernel_rfl
theorem kw38:failsB (strH knS) [99,118,114,115] 22 [obInt 1,obReal 37,obS 3 [97,98,99]]=true:=by kernel_rfl
theorem kw39:failsB (strH knS) [99,118,114,115] 20 [obInt 1,obS 3 [97,98,99]]=true:=by kernel_rfl
theorem kw40:failsB (strH knS) [99,118,110] 23 [obS 6 z101]=true:=by kernel_rfl
theorem kw41:failsB (strH knS) [99,118,110] 22 [knN]=true:=by kernel_rfl
theorem kw42:failsB (strH knS) [101,113] 20 [obInt 1]=true:=by kernel_rfl
theorem kw43:failsB (strH knS) [116,121,112,101] 20 []=true:=by kernel_rfl
theorem kw44:failsB (strH knS) [110,111,114] 24 [obInt 1,obInt 1]=true:=by kernel_rfl
theorem kw45:failsB (strH knS) [98,105,116,115,104,105,102,116] 22 [obInt 1,obReal 1]=true:=by kernel_rfl
set_option maxHeartbeats 40000000 in
theorem known14_res (H:B.H_chaselaw14_LogicKnown T) (hwf:st.Wf) (hpw:Pow st) (hbr:Bru st):
  CRes (call T (.fn 296 [] []) [] st) fun v s=>v= .bool true∧Ext st s:=by
 refine call_res H.e H.f rfl ?_
 simp (disch:=omega) [B.chaselaw14_LogicKnown,go_sem]
 refine(wakes14_tells H.chaselaw14_wakes hwf hpw hbr).use fun s1 x1=> ?_
 simp (disch:=omega) [go_sem]
 simp (disch:=omega) [go_sem,eq_true z101_len,z101_b]
 have x2:=(x1.consN (o:= .cells 5 false (reps [AV.int IntKind.u8 0] 101)) (Nat.lt_succ_self s1.nx)).consN (o:= .cells 9 false (strsA knS)) (Nat.lt_succ_self (s1.nx+1))
 refine(strings_res H.chaselaw14_strings x2.wf (l:=knS) (.inr ⟨_,_,_,rfl,rd_all (ty:=9) (l:=false) (by simp[hget_cons]) rfl⟩) (by decide)).mono ?_
 rintro w s2 ⟨x3,v,u,rfl,hh,ho⟩
 have y2:=x2.trans x3
 have w2:=y2.wf
 obtain⟨n,off,ob,hat⟩:=ho.acc w2
 obtain⟨a1,a2,l0,m0⟩:=hat 0 (obS 0 [97]) (by decide) rfl
 simp only[show ((0:Int)).toNat=0 from rfl,Nat.reduceMul,Nat.add_zero]at l0 m0
 obtain⟨a1,a2,l1,m1⟩:=hat 1 (obS 1 [57,57,57,57,57,57,57,57,57,57,57]) (by decide) rfl
 simp only[show ((1:Int)).toNat=1 from rfl,Nat.reduceMul,Nat.add_zero]at l1 m1
 obtain⟨a1,a2,l2,m2⟩:=hat 2 (obS 2 [45,50,46,53,101,49]) (by decide) rfl
 simp only[show ((2:Int)).toNat=2 from rfl,Nat.reduceMul,Nat.add_zero]at l2 m2
 obtain⟨a1,a2,l3,m3⟩:=hat 3 (obS 3 [97,98,99]) (by decide) rfl
 simp only[show ((3:Int)).toNat=3 from rfl,Nat.reduceMul,Nat.add_zero]at l3 m3
 obtain⟨a1,a2,l4,m4⟩:=hat 4 (obS 4 [49,50,51,52,53,54,55,56]) (by decide) rfl
 simp only[show ((4:Int)).toNat=4 from rfl,Nat.reduceMul,Nat.add_zero]at l4 m4
 obtain⟨a1,a2,l5,m5⟩:=hat 5 (obS 5 [97,98,99,100]) (by decide) rfl
 simp only[show ((5:Int)).toNat=5 from rfl,Nat.reduceMul,Nat.add_zero]at l5 m5
 obtain⟨a1,a2,l6,m6⟩:=hat 6 (obS 6 z101) (by decide) rfl
 simp only[show ((6:Int)).toNat=6 from rfl,Nat.reduceMul,Nat.add_zero]at l6 m6
 obtain⟨a1,a2,l7,m7⟩:=hat 7 (obS 7 [49,46,53]) (by decide) rfl
 simp only[show ((7:Int)).toNat=7 from rfl,Nat.reduceMul,Nat.add_zero]at l7 m7
 clear hat
 have c1:¬s2.nx+1+1=s2.nx:=by omega
 have c2:¬s2.nx=n:=by omega
 have c3:¬s2.nx+1=n:=by omega
 have c4:¬s2.nx+1+1=n:=by omega
 have c5:¬s2.nx+1+1+1=s2.nx:=by omega
 have c6:¬s2.nx+1+1+1=n:=by omega
 simp (disch:=omega) [go_sem,↓PO_iaddr,B.zOb,hh.sc,RdS.sc ho,a2,c1,c2,c3,c4,c5,c6,l0,m0,l1,m1,l2,m2,l3,m3,l4,m4,l5,m5,l6,m6,l7,m7]
 have x4:Ext s2 ⟨(s2.nx+1+1+1,AObj.cells 451 true [AV.int IntKind.i64 (obS 3 [97,98,99]).k,AV.bool true,AV.int IntKind.i64 (obS 3 [97,98,99]).n,AV.str (obS 3 [97,98,99]).t,AV.int IntKind.i64 (obS 3 [97,98,99]).r,AV.int IntKind.i64 (obS 3 [97,98,99]).o,AV.int IntKind.i64 (obS 3 [97,98,99]).l])::(s2.nx+1+1,AObj.cells 451 true [AV.int IntKind.i64 1,AV.bool false,AV.int IntKind.i64 0,AV.str [],AV.int IntKind.i64 0,AV.int IntKind.i64 0,AV.int IntKind.i64 0])::(s2.nx+1,AObj.cells 451 true [AV.int IntKind.i64 5,AV.bool false,AV.int IntKind.i64 0,AV.str [97],AV.int IntKind.i64 0,AV.int IntKind.i64 0,AV.int IntKind.i64 0])::(s2.nx,AObj.cells 451 true [AV.int IntKind.i64 (obS 0 [97]).k,AV.bool (obS 0 [97]).x,AV.int IntKind.i64 (obS 0 [97]).n,AV.str (obS 0 [97]).t,AV.int IntKind.i64 (obS 0 [97]).r,AV.int IntKind.i64 (obS 0 [97]).o,AV.int IntKind.i64 (obS 0 [97]).l])::s2.h,s2.nx+1+1+1+1⟩:=((((Ext.refl w2).consN (Nat.lt_succ_self _)).consN (Nat.lt_succ_self _)).consN (Nat.lt_succ_self _)).consN (Nat.lt_succ_self _)
 have gA:hget ((s2.nx+1+1+1,AObj.cells 451 true [AV.int IntKind.i64 (obS 3 [97,98,99]).k,AV.bool true,AV.int IntKind.i64 (obS 3 [97,98,99]).n,AV.str (obS 3 [97,98,99]).t,AV.int IntKind.i64 (obS 3 [97,98,99]).r,AV.int IntKind.i64 (obS 3 [97,98,99]).o,AV.int IntKind.i64 (obS 3 [97,98,99]).l])::(s2.nx+1+1,AObj.cells 451 true [AV.int IntKind.i64 1,AV.bool false,AV.int IntKind.i64 0,AV.str [],AV.int IntKind.i64 0,AV.int IntKind.i64 0,AV.int IntKind.i64 0])::(s2.nx+1,AObj.cells 451 true [AV.int IntKind.i64 5,AV.bool false,AV.int IntKind.i64 0,AV.str [97],AV.int IntKind.i64 0,AV.int IntKind.i64 0,AV.int IntKind.i64 0])::(s2.nx,AObj.cells 451 true [AV.int IntKind.i64 (obS 0 [97]).k,AV.bool (obS 0 [97]).x,AV.int IntKind.i64 (obS 0 [97]).n,AV.str (obS 0 [97]).t,AV.int IntKind.i64 (obS 0 [97]).r,AV.int IntKind.i64 (obS 0 [97]).o,AV.int IntKind.i64 (obS 0 [97]).l])::s2.h) s2.nx=some (.cells 451 true (obS 0 [97]).A):=by rw[hget_cons,if_neg (by omega),hget_cons,if_neg (by omega),hget_cons,if_neg (by omega),hget_cons,if_pos rfl];rfl
 have gN:hget ((s2.nx+1+1+1,AObj.cells 451 true [AV.int IntKind.i64 (obS 3 [97,98,99]).k,AV.bool true,AV.int IntKind.i64 (obS 3 [97,98,99]).n,AV.str (obS 3 [97,98,99]).t,AV.int IntKind.i64 (obS 3 [97,98,99]).r,AV.int IntKind.i64 (obS 3 [97,98,99]).o,AV.int IntKind.i64 (obS 3 [97,98,99]).l])::(s2.nx+1+1,AObj.cells 451 true [AV.int IntKind.i64 1,AV.bool false,AV.int IntKind.i64 0,AV.str [],AV.int IntKind.i64 0,AV.int IntKind.i64 0,AV.int IntKind.i64 0])::(s2.nx+1,AObj.cells 451 true [AV.int IntKind.i64 5,AV.bool false,AV.int IntKind.i64 0,AV.str [97],AV.int IntKind.i64 0,AV.int IntKind.i64 0,AV.int IntKind.i64 0])::(s2.nx,AObj.cells 451 true [AV.int IntKind.i64 (obS 0 [97]).k,AV.bool (obS 0 [97]).x,AV.int IntKind.i64 (obS 0 [97]).n,AV.str (obS 0 [97]).t,AV.int IntKind.i64 (obS 0 [97]).r,AV.int IntKind.i64 (obS 0 [97]).o,AV.int IntKind.i64 (obS 0 [97]).l])::s2.h) (s2.nx+1)=some (.cells 451 true [AV.int IntKind.i64 5,AV.bool false,AV.int IntKind.i64 0,AV.str [97],AV.int IntKind.i64 0,AV.int IntKind.i64 0,AV.int IntKind.i64 0]):=by rw[hget_cons,if_neg (by omega),hget_cons,if_neg (by omega),hget_cons,if_pos rfl]
 have gM:hget ((s2.nx+1+1+1,AObj.cells 451 true [AV.int IntKind.i64 (obS 3 [97,98,99]).k,AV.bool true,AV.int IntKind.i64 (obS 3 [97,98,99]).n,AV.str (obS 3 [97,98,99]).t,AV.int IntKind.i64 (obS 3 [97,98,99]).r,AV.int IntKind.i64 (obS 3 [97,98,99]).o,AV.int IntKind.i64 (obS 3 [97,98,99]).l])::(s2.nx+1+1,AObj.cells 451 true [AV.int IntKind.i64 1,AV.bool false,AV.int IntKind.i64 0,AV.str [],AV.int IntKind.i64 0,AV.int IntKind.i64 0,AV.int IntKind.i64 0])::(s2.nx+1,AObj.cells 451 true [AV.int IntKind.i64 5,AV.bool false,AV.int IntKind.i64 0,AV.str [97],AV.int IntKind.i64 0,AV.int IntKind.i64 0,AV.int IntKind.i64 0])::(s2.nx,AObj.cells 451 true [AV.int IntKind.i64 (obS 0 [97]).k,AV.bool (obS 0 [97]).x,AV.int IntKind.i64 (obS 0 [97]).n,AV.str (obS 0 [97]).t,AV.int IntKind.i64 (obS 0 [97]).r,AV.int IntKind.i64 (obS 0 [97]).o,AV.int IntKind.i64 (obS 0 [97]).l])::s2.h) (s2.nx+1+1)=some (.cells 451 true [AV.int IntKind.i64 1,AV.bool false,AV.int IntKind.i64 0,AV.str [],AV.int IntKind.i64 0,AV.int IntKind.i64 0,AV.int IntKind.i64 0]):=by rw[hget_cons,if_neg (by omega),hget_cons,if_pos rfl]
 have gE:hget ((s2.nx+1+1+1,AObj.cells 451 true [AV.int IntKind.i64 (obS 3 [97,98,99]).k,AV.bool true,AV.int IntKind.i64 (obS 3 [97,98,99]).n,AV.str (obS 3 [97,98,99]).t,AV.int IntKind.i64 (obS 3 [97,98,99]).r,AV.int IntKind.i64 (obS 3 [97,98,99]).o,AV.int IntKind.i64 (obS 3 [97,98,99]).l])::(s2.nx+1+1,AObj.cells 451 true [AV.int IntKind.i64 1,AV.bool false,AV.int IntKind.i64 0,AV.str [],AV.int IntKind.i64 0,AV.int IntKind.i64 0,AV.int IntKind.i64 0])::(s2.nx+1,AObj.cells 451 true [AV.int IntKind.i64 5,AV.bool false,AV.int IntKind.i64 0,AV.str [97],AV.int IntKind.i64 0,AV.int IntKind.i64 0,AV.int IntKind.i64 0])::(s2.nx,AObj.cells 451 true [AV.int IntKind.i64 (obS 0 [97]).k,AV.bool (obS 0 [97]).x,AV.int IntKind.i64 (obS 0 [97]).n,AV.str (obS 0 [97]).t,AV.int IntKind.i64 (obS 0 [97]).r,AV.int IntKind.i64 (obS 0 [97]).o,AV.int IntKind.i64 (obS 0 [97]).l])::s2.h) (s2.nx+1+1+1)=some (.cells 451 true [AV.int IntKind.i64 (obS 3 [97,98,99]).k,AV.bool true,AV.int IntKind.i64 (obS 3 [97,98,99]).n,AV.str (obS 3 [97,98,99]).t,AV.int IntKind.i64 (obS 3 [97,98,99]).r,AV.int IntKind.i64 (obS 3 [97,98,99]).o,AV.int IntKind.i64 (obS 3 [97,98,99]).l]):=by rw[hget_cons,if_pos rfl]
 have gn:hget ((s2.nx+1+1+1,AObj.cells 451 true [AV.int IntKind.i64 (obS 3 [97,98,99]).k,AV.bool true,AV.int IntKind.i64 (obS 3 [97,98,99]).n,AV.str (obS 3 [97,98,99]).t,AV.int IntKind.i64 (obS 3 [97,98,99]).r,AV.int IntKind.i64 (obS 3 [97,98,99]).o,AV.int IntKind.i64 (obS 3 [97,98,99]).l])::(s2.nx+1+1,AObj.cells 451 true [AV.int IntKind.i64 1,AV.bool false,AV.int IntKind.i64 0,AV.str [],AV.int IntKind.i64 0,AV.int IntKind.i64 0,AV.int IntKind.i64 0])::(s2.nx+1,AObj.cells 451 true [AV.int IntKind.i64 5,AV.bool false,AV.int IntKind.i64 0,AV.str [97],AV.int IntKind.i64 0,AV.int IntKind.i64 0,AV.int IntKind.i64 0])::(s2.nx,AObj.cells 451 true [AV.int IntKind.i64 (obS 0 [97]).k,AV.bool (obS 0 [97]).x,AV.int IntKind.i64 (obS 0 [97]).n,AV.str (obS 0 [97]).t,AV.int IntKind.i64 (obS 0 [97]).r,AV.int IntKind.i64 (obS 0 [97]).o,AV.int IntKind.i64 (obS 0 [97]).l])::s2.h) n=some ob:=by rw[hget_cons,if_neg c6,hget_cons,if_neg c4,hget_cons,if_neg c3,hget_cons,if_neg c2,a2]
 have hB:=hh.ext x4 w2
 simp only at hB
 have yB:=y2.trans x4
 have lA:s2.nx<s2.nx+1+1+1+1:=by omega
 have lN:s2.nx+1<s2.nx+1+1+1+1:=by omega
 have lM:s2.nx+1+1<s2.nx+1+1+1+1:=by omega
 have lE:s2.nx+1+1+1<s2.nx+1+1+1+1:=by omega
 have ln:n<s2.nx+1+1+1+1:=by omega
 generalize (s2.nx+1+1+1,AObj.cells 451 true [AV.int IntKind.i64 (obS 3 [97,98,99]).k,AV.bool true,AV.int IntKind.i64 (obS 3 [97,98,99]).n,AV.str (obS 3 [97,98,99]).t,AV.int IntKind.i64 (obS 3 [97,98,99]).r,AV.int IntKind.i64 (obS 3 [97,98,99]).o,AV.int IntKind.i64 (obS 3 [97,98,99]).l])::(s2.nx+1+1,AObj.cells 451 true [AV.int IntKind.i64 1,AV.bool false,AV.int IntKind.i64 0,AV.str [],AV.int IntKind.i64 0,AV.int IntKind.i64 0,AV.int IntKind.i64 0])::(s2.nx+1,AObj.cells 451 true [AV.int IntKind.i64 5,AV.bool false,AV.int IntKind.i64 0,AV.str [97],AV.int IntKind.i64 0,AV.int IntKind.i64 0,AV.int IntKind.i64 0])::(s2.nx,AObj.cells 451 true [AV.int IntKind.i64 (obS 0 [97]).k,AV.bool (obS 0 [97]).x,AV.int IntKind.i64 (obS 0 [97]).n,AV.str (obS 0 [97]).t,AV.int IntKind.i64 (obS 0 [97]).r,AV.int IntKind.i64 (obS 0 [97]).o,AV.int IntKind.i64 (obS 0 [97]).l])::s2.h=HB at*
 generalize hnb:s2.nx+1+1+1+1=NB at*
 generalize hnE:s2.nx+1+1+1=nE at*
 generalize hnM:s2.nx+1+1=nM at*
 generalize hnN:s2.nx+1=nN at*
 generalize hnA:s2.nx=nA at*
 have E0:Ext ⟨HB,NB⟩ ⟨HB,NB⟩:=Ext.refl yB.wf
 clear x4 hh ho x2 x3 y2
 have wB:=yB.wf
 have hp0:=hpw.ext yB hwf
 have hb0:=hbr.ext yB hwf
 have hS:HpS (strH knS):=strH_S (by decide) (by decide)
 clear hpw hbr
 have i1:=InS.startE E0 (M:=NB+55) (by simp)
 simp only at i1
 have nb1:NB≤NB:=E0.nx
 refine(bool14_tells H.chaselaw14_b i1.1.wf true).use fun q2 e2=> ?_
 have i2:=i1.call e2
 have k2:=i2.look
 simp only at k2
 simp (disch:=omega) [go_sem,reI,wanted,B.zOb,↓PO_iaddr,gA,gN,gM,gE,gn,l0,m0,l1,m1,l2,m2,l3,m3,l4,m4,l5,m5,l6,m6,l7,m7,k2]
 have i3:=i2.new (NB) (.cells 451 false (obsA [obS 0 [97],knN])) (show NB≤_ by omega) (by omega) (by omega)
 have t0:=gives14_tells H.chaselaw14_gives i3.1.wf (RdO.made (m:=NB) (ty:=451) (l:=[obS 0 [97],knN]) (by simp[hget_cons]) rfl) (hB.ext i3.1 wB) (by simp) hS (hp0.ext i3.1 wB) (hb0.ext i3.1 wB) [101,113] (obBool true)
 rw[kw0]at t0
 refine(t0).use fun q4 e4=> ?_
 have i4:=i3.call e4
 have k4:=i4.look
 simp only at k4
 simp (disch:=omega) [go_sem,reI,wanted,B.zOb,↓PO_iaddr,gA,gN,gM,gE,gn,l0,m0,l1,m1,l2,m2,l3,m3,l4,m4,l5,m5,l6,m6,l7,m7,k2,k4]
 refine(bool14_tells H.chaselaw14_b i4.1.wf false).use fun q5 e5=> ?_
 have i5:=i4.call e5
 have k5:=i5.look
 simp only at k5
 simp (disch:=omega) [go_sem,reI,wanted,B.zOb,↓PO_iaddr,gA,gN,gM,gE,gn,l0,m0,l1,m1,l2,m2,l3,m3,l4,m4,l5,m5,l6,m6,l7,m7,k2,k4,k5]
 refine(int14_tells H.chaselaw14_i i5.1.wf 1).use fun q6 e6=> ?_
 have i6:=i5.call e6
 have k6:=i6.look
 simp only at k6
 simp (disch:=omega) [go_sem,reI,wanted,B.zOb,↓PO_iaddr,gA,gN,gM,gE,gn,l0,m0,l1,m1,l2,m2,l3,m3,l4,m4,l5,m5,l6,m6,l7,m7,k2,k4,k5,k6]
 refine(bool14_tells H.chaselaw14_b i6.1.wf true).use fun q7 e7=> ?_
 have i7:=i6.call e7
 have k7:=i7.look
 simp only at k7
 simp (disch:=omega) [go_sem,reI,wanted,B.zOb,↓PO_iaddr,gA,gN,gM,gE,gn,l0,m0,l1,m1,l2,m2,l3,m3,l4,m4,l5,m5,l6,m6,l7,m7,k4,k5,k6,k7]
 have i8:=i7.new (NB+1) (.cells 451 false (obsA [obInt 1,obBool true])) (show NB≤_ by omega) (by omega) (by omega)
 have t1:=gives14_tells H.chaselaw14_gives i8.1.wf (RdO.made (m:=NB+1) (ty:=451) (l:=[obInt 1,obBool true]) (by simp[hget_cons]) rfl) (hB.ext i8.1 wB) (by simp) hS (hp0.ext i8.1 wB) (hb0.ext i8.1 wB) [101,113] (obBool false)
 rw[kw1]at t1
 refine(t1).use fun q9 e9=> ?_
 have i9:=i8.call e9
 have k9:=i9.look
 simp only at k9
 simp (disch:=omega) [go_sem,reI,wanted,B.zOb,↓PO_iaddr,gA,gN,gM,gE,gn,l0,m0,l1,m1,l2,m2,l3,m3,l4,m4,l5,m5,l6,m6,l7,m7,k5,k6,k7,k9]
 refine(bool14_tells H.chaselaw14_b i9.1.wf true).use fun q10 e10=> ?_
 have i10:=i9.call e10
 have k10:=i10.look
 simp only at k10
 simp (disch:=omega) [go_sem,reI,wanted,B.zOb,↓PO_iaddr,gA,gN,gM,gE,gn,l0,m0,l1,m1,l2,m2,l3,m3,l4,m4,l5,m5,l6,m6,l7,m7,k6,k7,k9,k10]
 refine(int14_tells H.chaselaw14_i i10.1.wf 2).use fun q11 e11=> ?_
 have i11:=i10.call e11
 have k11:=i11.look
 simp only at k11
 simp (disch:=omega) [go_sem,reI,wanted,B.zOb,↓PO_iaddr,gA,gN,gM,gE,gn,l0,m0,l1,m1,l2,m2,l3,m3,l4,m4,l5,m5,l6,m6,l7,m7,k7,k9,k10,k11]
 refine(real14_tells H.chaselaw14_r i11.1.wf 98304).use fun q12 e12=> ?_
 have i12:=i11.call e12
 have k12:=i12.look
 simp only at k12
 simp (disch:=omega) [go_sem,reI,wanted,B.zOb,↓PO_iaddr,gA,gN,gM,gE,gn,l0,m0,l1,m1,l2,m2,l3,m3,l4,m4,l5,m5,l6,m6,l7,m7,k9,k10,k11,k12]
 have i13:=i12.new (NB+2) (.cells 451 false (obsA [obInt 2,obReal 98304])) (show NB≤_ by omega) (by omega) (by omega)
 have t2:=gives14_tells H.chaselaw14_gives i13.1.wf (RdO.made (m:=NB+2) (ty:=451) (l:=[obInt 2,obReal 98304]) (by simp[hget_cons]) rfl) (hB.ext i13.1 wB) (by simp) hS (hp0.ext i13.1 wB) (hb0.ext i13.1 wB) [103,101] (obBool true)
 rw[kw2]at t2
 refine(t2).use fun q14 e14=> ?_
 have i14:=i13.call e14
 have k14:=i14.look
 simp only at k14
 simp (disch:=omega) [go_sem,reI,wanted,B.zOb,↓PO_iaddr,gA,gN,gM,gE,gn,l0,m0,l1,m1,l2,m2,l3,m3,l4,m4,l5,m5,l6,m6,l7,m7,k10,k11,k12,k14]
 refine(bool14_tells H.chaselaw14_b i14.1.wf true).use fun q15 e15=> ?_
 have i15:=i14.call e15
 have k15:=i15.look
 simp only at k15
 simp (disch:=omega) [go_sem,reI,wanted,B.zOb,↓PO_iaddr,gA,gN,gM,gE,gn,l0,m0,l1,m1,l2,m2,l3,m3,l4,m4,l5,m5,l6,m6,l7,m7,k11,k12,k14,k15]
 have i16:=i15.new (NB+3) (.cells 451 false (obsA [obS 0 [97],obS 0 [97]])) (show NB≤_ by omega) (by omega) (by omega)
 have t3:=gives14_tells H.chaselaw14_gives i16.1.wf (RdO.made (m:=NB+3) (ty:=451) (l:=[obS 0 [97],obS 0 [97]]) (by simp[hget_cons]) rfl) (hB.ext i16.1 wB) (by simp) hS (hp0.ext i16.1 wB) (hb0.ext i16.1 wB) [108,101] (obBool true)
 rw[kw3]at t3
 refine(t3).use fun q17 e17=> ?_
 have i17:=i16.call e17
 have k17:=i17.look
 simp only at k17
 simp (disch:=omega) [go_sem,reI,wanted,B.zOb,↓PO_iaddr,gA,gN,gM,gE,gn,l0,m0,l1,m1,l2,m2,l3,m3,l4,m4,l5,m5,l6,m6,l7,m7,k12,k14,k15,k17]
 refine(bool14_tells H.chaselaw14_b i17.1.wf false).use fun q18 e18=> ?_
 have i18:=i17.call e18
 have k18:=i18.look
 simp only at k18
 simp (disch:=omega) [go_sem,reI,wanted,B.zOb,↓PO_iaddr,gA,gN,gM,gE,gn,l0,m0,l1,m1,l2,m2,l3,m3,l4,m4,l5,m5,l6,m6,l7,m7,k14,k15,k17,k18]
 have i19:=i18.new (NB+4) (.cells 451 false (obsA [obS 0 [97],obS 3 [97,98,99]])) (show NB≤_ by omega) (by omega) (by omega)
 have t4:=gives14_tells H.chaselaw14_gives i19.1.wf (RdO.made (m:=NB+4) (ty:=451) (l:=[obS 0 [97],obS 3 [97,98,99]]) (by simp[hget_cons]) rfl) (hB.ext i19.1 wB) (by simp) hS (hp0.ext i19.1 wB) (hb0.ext i19.1 wB) [103,116] (obBool false)
 rw[kw4]at t4
 refine(t4).use fun q20 e20=> ?_
 have i20:=i19.call e20
 have k20:=i20.look
 simp only at k20
 simp (disch:=omega) [go_sem,reI,wanted,B.zOb,↓PO_iaddr,gA,gN,gM,gE,gn,l0,m0,l1,m1,l2,m2,l3,m3,l4,m4,l5,m5,l6,m6,l7,m7,k15,k17,k18,k20]
 refine(bool14_tells H.chaselaw14_b i20.1.wf true).use fun q21 e21=> ?_
 have i21:=i20.call e21
 have k21:=i21.look
 simp only at k21
 simp (disch:=omega) [go_sem,reI,wanted,B.zOb,↓PO_iaddr,gA,gN,gM,gE,gn,l0,m0,l1,m1,l2,m2,l3,m3,l4,m4,l5,m5,l6,m6,l7,m7,k17,k18,k20,k21]
 refine(int14_tells H.chaselaw14_i i21.1.wf 1).use fun q22 e22=> ?_
 have i22:=i21.call e22
 have k22:=i22.look
 simp only at k22
 simp (disch:=omega) [go_sem,reI,wanted,B.zOb,↓PO_iaddr,gA,gN,gM,gE,gn,l0,m0,l1,m1,l2,m2,l3,m3,l4,m4,l5,m5,l6,m6,l7,m7,k18,k20,k21,k22]
 refine(int14_tells H.chaselaw14_i i22.1.wf 2).use fun q23 e23=> ?_
 have i23:=i22.call e23
 have k23:=i23.look
 simp only at k23
 simp (disch:=omega) [go_sem,reI,wanted,B.zOb,↓PO_iaddr,gA,gN,gM,gE,gn,l0,m0,l1,m1,l2,m2,l3,m3,l4,m4,l5,m5,l6,m6,l7,m7,k20,k21,k22,k23]
 have i24:=i23.new (NB+5) (.cells 451 false (obsA [obInt 1,obInt 2])) (show NB≤_ by omega) (by omega) (by omega)
 have t5:=gives14_tells H.chaselaw14_gives i24.1.wf (RdO.made (m:=NB+5) (ty:=451) (l:=[obInt 1,obInt 2]) (by simp[hget_cons]) rfl) (hB.ext i24.1 wB) (by simp) hS (hp0.ext i24.1 wB) (hb0.ext i24.1 wB) [110,101] (obBool true)
 rw[kw5]at t5
 refine(t5).use fun q25 e25=> ?_
 have i25:=i24.call e25
 have k25:=i25.look
 simp only at k25
 simp (disch:=omega) [go_sem,reI,wanted,B.zOb,↓PO_iaddr,gA,gN,gM,gE,gn,l0,m0,l1,m1,l2,m2,l3,m3,l4,m4,l5,m5,l6,m6,l7,m7,k21,k22,k23,k25]
 have E25:=i25.1
 refine(bool14_tells H.chaselaw14_b E25.wf true).use fun q26 e26=> ?_
 have E26:=E25.trans e26
 have k26:=E26.keep
 simp only at k26
 simp (disch:=omega) [go_sem,reI,wanted,B.zOb,↓PO_iaddr,gA,gN,gM,gE,gn,l0,m0,l1,m1,l2,m2,l3,m3,l4,m4,l5,m5,l6,m6,l7,m7,k22,k23,k25,k26]
 refine(bool14_tells H.chaselaw14_b E26.wf true).use fun q27 e27=> ?_
 have E27:=E26.trans e27
 have k27:=E27.keep
 simp only at k27
 simp (disch:=omega) [go_sem,reI,wanted,B.zOb,↓PO_iaddr,gA,gN,gM,gE,gn,l0,m0,l1,m1,l2,m2,l3,m3,l4,m4,l5,m5,l6,m6,l7,m7,k23,k25,k26,k27]
 refine(bool14_tells H.chaselaw14_b E27.wf false).use fun q28 e28=> ?_
 have E28:=E27.trans e28
 have k28:=E28.keep
 simp only at k28
 simp (disch:=omega) [go_sem,reI,wanted,B.zOb,↓PO_iaddr,gA,gN,gM,gE,gn,l0,m0,l1,m1,l2,m2,l3,m3,l4,m4,l5,m5,l6,m6,l7,m7,k25,k26,k27,k28]
 have E29:=E28.consN (o:= .cells 451 false (obsA [obBool true,obBool false])) (Nat.lt_succ_self _)
 have t6:=gives14_tells H.chaselaw14_gives E29.wf (RdO.made (m:=q28.nx) (ty:=451) (l:=[obBool true,obBool false]) (by simp[hget_cons]) rfl) (hB.ext E29 wB) (by simp) hS (hp0.ext E29 wB) (hb0.ext E29 wB) [111,114] (obBool true)
 rw[kw6]at t6
 refine(t6).use fun q30 e30=> ?_
 have E30:=E29.trans e30
 have k30:=E30.keep
 simp only at k30
 simp (disch:=omega) [go_sem,reI,wanted,B.zOb,↓PO_iaddr,gA,gN,gM,gE,gn,l0,m0,l1,m1,l2,m2,l3,m3,l4,m4,l5,m5,l6,m6,l7,m7,k26,k27,k28,k30]
 refine(int14_tells H.chaselaw14_i E30.wf 15).use fun q31 e31=> ?_
 have E31:=E30.trans e31
 have k31:=E31.keep
 simp only at k31
 simp (disch:=omega) [go_sem,reI,wanted,B.zOb,↓PO_iaddr,gA,gN,gM,gE,gn,l0,m0,l1,m1,l2,m2,l3,m3,l4,m4,l5,m5,l6,m6,l7,m7,k27,k28,k30,k31]
 refine(int14_tells H.chaselaw14_i E31.wf (-1)).use fun q32 e32=> ?_
 have E32:=E31.trans e32
 have k32:=E32.keep
 simp only at k32
 simp (disch:=omega) [go_sem,reI,wanted,B.zOb,↓PO_iaddr,gA,gN,gM,gE,gn,l0,m0,l1,m1,l2,m2,l3,m3,l4,m4,l5,m5,l6,m6,l7,m7,k28,k30,k31,k32]
 refine(int14_tells H.chaselaw14_i E32.wf (-28)).use fun q33 e33=> ?_
 have E33:=E32.trans e33
 have k33:=E33.keep
 simp only at k33
 simp (disch:=omega) [go_sem,reI,wanted,B.zOb,↓PO_iaddr,gA,gN,gM,gE,gn,l0,m0,l1,m1,l2,m2,l3,m3,l4,m4,l5,m5,l6,m6,l7,m7,k30,k31,k32,k33]
 have E34:=E33.consN (o:= .cells 451 false (obsA [obInt (-1),obInt (-28)])) (Nat.lt_succ_self _)
 have t7:=gives14_tells H.chaselaw14_gives E34.wf (RdO.made (m:=q33.nx) (ty:=451) (l:=[obInt (-1),obInt (-28)]) (by simp[hget_cons]) rfl) (hB.ext E34 wB) (by simp) hS (hp0.ext E34 wB) (hb0.ext E34 wB) [98,105,116,115,104,105,102,116] (obInt 15)
 rw[kw7]at t7
 refine(t7).use fun q35 e35=> ?_
 have E35:=E34.trans e35
 have k35:=E35.keep
 simp only at k35
 simp (disch:=omega) [go_sem,reI,wanted,B.zOb,↓PO_iaddr,gA,gN,gM,gE,gn,l0,m0,l1,m1,l2,m2,l3,m3,l4,m4,l5,m5,l6,m6,l7,m7,k31,k32,k33,k35]
 refine(int14_tells H.chaselaw14_i E35.wf (-2147483648)).use fun q36 e36=> ?_
 have E36:=E35.trans e36
 have k36:=E36.keep
 simp only at k36
 simp (disch:=omega) [go_sem,reI,wanted,B.zOb,↓PO_iaddr,gA,gN,gM,gE,gn,l0,m0,l1,m1,l2,m2,l3,m3,l4,m4,l5,m5,l6,m6,l7,m7,k32,k33,k35,k36]
 refine(int14_tells H.chaselaw14_i E36.wf 1).use fun q37 e37=> ?_
 have E37:=E36.trans e37
 have k37:=E37.keep
 simp only at k37
 simp (disch:=omega) [go_sem,reI,wanted,B.zOb,↓PO_iaddr,gA,gN,gM,gE,gn,l0,m0,l1,m1,l2,m2,l3,m3,l4,m4,l5,m5,l6,m6,l7,m7,k33,k35,k36,k37]
 refine(int14_tells H.chaselaw14_i E37.wf 31).use fun q38 e38=> ?_
 have E38:=E37.trans e38
 have k38:=E38.keep
 simp only at k38
 simp (disch:=omega) [go_sem,reI,wanted,B.zOb,↓PO_iaddr,gA,gN,gM,gE,gn,l0,m0,l1,m1,l2,m2,l3,m3,l4,m4,l5,m5,l6,m6,l7,m7,k35,k36,k37,k38]
 have E39:=E38.consN (o:= .cells 451 false (obsA [obInt 1,obInt 31])) (Nat.lt_succ_self _)
 have t8:=gives14_tells H.chaselaw14_gives E39.wf (RdO.made (m:=q38.nx) (ty:=451) (l:=[obInt 1,obInt 31]) (by simp[hget_cons]) rfl) (hB.ext E39 wB) (by simp) hS (hp0.ext E39 wB) (hb0.ext E39 wB) [98,105,116,115,104,105,102,116] (obInt (-2147483648))
 rw[kw8]at t8
 refine(t8).use fun q40 e40=> ?_
 have E40:=E39.trans e40
 have k40:=E40.keep
 simp only at k40
 simp (disch:=omega) [go_sem,reI,wanted,B.zOb,↓PO_iaddr,gA,gN,gM,gE,gn,l0,m0,l1,m1,l2,m2,l3,m3,l4,m4,l5,m5,l6,m6,l7,m7,k36,k37,k38,k40]
 refine(int14_tells H.chaselaw14_i E40.wf 0).use fun q41 e41=> ?_
 have E41:=E40.trans e41
 have k41:=E41.keep
 simp only at k41
 simp (disch:=omega) [go_sem,reI,wanted,B.zOb,↓PO_iaddr,gA,gN,gM,gE,gn,l0,m0,l1,m1,l2,m2,l3,m3,l4,m4,l5,m5,l6,m6,l7,m7,k37,k38,k40,k41]
 refine(int14_tells H.chaselaw14_i E41.wf 1).use fun q42 e42=> ?_
 have E42:=E41.trans e42
 have k42:=E42.keep
 simp only at k42
 simp (disch:=omega) [go_sem,reI,wanted,B.zOb,↓PO_iaddr,gA,gN,gM,gE,gn,l0,m0,l1,m1,l2,m2,l3,m3,l4,m4,l5,m5,l6,m6,l7,m7,k38,k40,k41,k42]
 refine(int14_tells H.chaselaw14_i E42.wf 32).use fun q43 e43=> ?_
 have E43:=E42.trans e43
 have k43:=E43.keep
 simp only at k43
 simp (disch:=omega) [go_sem,reI,wanted,B.zOb,↓PO_iaddr,gA,gN,gM,gE,gn,l0,m0,l1,m1,l2,m2,l3,m3,l4,m4,l5,m5,l6,m6,l7,m7,k40,k41,k42,k43]
 have E44:=E43.consN (o:= .cells 451 false (obsA [obInt 1,obInt 32])) (Nat.lt_succ_self _)
 have t9:=gives14_tells H.chaselaw14_gives E44.wf (RdO.made (m:=q43.nx) (ty:=451) (l:=[obInt 1,obInt 32]) (by simp[hget_cons]) rfl) (hB.ext E44 wB) (by simp) hS (hp0.ext E44 wB) (hb0.ext E44 wB) [98,105,116,115,104,105,102,116] (obInt 0)
 rw[kw9]at t9
 refine(t9).use fun q45 e45=> ?_
 have E45:=E44.trans e45
 have k45:=E45.keep
 simp only at k45
 simp (disch:=omega) [go_sem,reI,wanted,B.zOb,↓PO_iaddr,gA,gN,gM,gE,gn,l0,m0,l1,m1,l2,m2,l3,m3,l4,m4,l5,m5,l6,m6,l7,m7,k41,k42,k43,k45]
 refine(int14_tells H.chaselaw14_i E45.wf 0).use fun q46 e46=> ?_
 have E46:=E45.trans e46
 have k46:=E46.keep
 simp only at k46
 simp (disch:=omega) [go_sem,reI,wanted,B.zOb,↓PO_iaddr,gA,gN,gM,gE,gn,l0,m0,l1,m1,l2,m2,l3,m3,l4,m4,l5,m5,l6,m6,l7,m7,k42,k43,k45,k46]
 refine(int14_tells H.chaselaw14_i E46.wf (-1)).use fun q47 e47=> ?_
 have E47:=E46.trans e47
 have k47:=E47.keep
 simp only at k47
 simp (disch:=omega) [go_sem,reI,wanted,B.zOb,↓PO_iaddr,gA,gN,gM,gE,gn,l0,m0,l1,m1,l2,m2,l3,m3,l4,m4,l5,m5,l6,m6,l7,m7,k43,k45,k46,k47]
 refine(int14_tells H.chaselaw14_i E47.wf (-2147483648)).use fun q48 e48=> ?_
 have E48:=E47.trans e48
 have k48:=E48.keep
 simp only at k48
 simp (disch:=omega) [go_sem,reI,wanted,B.zOb,↓PO_iaddr,gA,gN,gM,gE,gn,l0,m0,l1,m1,l2,m2,l3,m3,l4,m4,l5,m5,l6,m6,l7,m7,k45,k46,k47,k48]
 have E49:=E48.consN (o:= .cells 451 false (obsA [obInt (-1),obInt (-2147483648)])) (Nat.lt_succ_self _)
 have t10:=gives14_tells H.chaselaw14_gives E49.wf (RdO.made (m:=q48.nx) (ty:=451) (l:=[obInt (-1),obInt (-2147483648)]) (by simp[hget_cons]) rfl) (hB.ext E49 wB) (by simp) hS (hp0.ext E49 wB) (hb0.ext E49 wB) [98,105,116,115,104,105,102,116] (obInt 0)
 rw[kw10]at t10
 refine(t10).use fun q50 e50=> ?_
 have E50:=E49.trans e50
 have k50:=E50.keep
 simp only at k50
 simp (disch:=omega) [go_sem,reI,wanted,B.zOb,↓PO_iaddr,gA,gN,gM,gE,gn,l0,m0,l1,m1,l2,m2,l3,m3,l4,m4,l5,m5,l6,m6,l7,m7,k46,k47,k48,k50]
 refine(int14_tells H.chaselaw14_i E50.wf (-1)).use fun q51 e51=> ?_
 have E51:=E50.trans e51
 have k51:=E51.keep
 simp only at k51
 simp (disch:=omega) [go_sem,reI,wanted,B.zOb,↓PO_iaddr,gA,gN,gM,gE,gn,l0,m0,l1,m1,l2,m2,l3,m3,l4,m4,l5,m5,l6,m6,l7,m7,k47,k48,k50,k51]
 refine(int14_tells H.chaselaw14_i E51.wf 5).use fun q52 e52=> ?_
 have E52:=E51.trans e52
 have k52:=E52.keep
 simp only at k52
 simp (disch:=omega) [go_sem,reI,wanted,B.zOb,↓PO_iaddr,gA,gN,gM,gE,gn,l0,m0,l1,m1,l2,m2,l3,m3,l4,m4,l5,m5,l6,m6,l7,m7,k48,k50,k51,k52]
 refine(int14_tells H.chaselaw14_i E52.wf (-6)).use fun q53 e53=> ?_
 have E53:=E52.trans e53
 have k53:=E53.keep
 simp only at k53
 simp (disch:=omega) [go_sem,reI,wanted,B.zOb,↓PO_iaddr,gA,gN,gM,gE,gn,l0,m0,l1,m1,l2,m2,l3,m3,l4,m4,l5,m5,l6,m6,l7,m7,k50,k51,k52,k53]
 have E54:=E53.consN (o:= .cells 451 false (obsA [obInt 5,obInt (-6)])) (Nat.lt_succ_self _)
 have t11:=gives14_tells H.chaselaw14_gives E54.wf (RdO.made (m:=q53.nx) (ty:=451) (l:=[obInt 5,obInt (-6)]) (by simp[hget_cons]) rfl) (hB.ext E54 wB) (by simp) hS (hp0.ext E54 wB) (hb0.ext E54 wB) [120,111,114] (obInt (-1))
 rw[kw11]at t11
 refine(t11).use fun q55 e55=> ?_
 have E55:=E54.trans e55
 have k55:=E55.keep
 simp only at k55
 simp (disch:=omega) [go_sem,reI,wanted,B.zOb,↓PO_iaddr,gA,gN,gM,gE,gn,l0,m0,l1,m1,l2,m2,l3,m3,l4,m4,l5,m5,l6,m6,l7,m7,k51,k52,k53,k55]
 refine(bool14_tells H.chaselaw14_b E55.wf false).use fun q56 e56=> ?_
 have E56:=E55.trans e56
 have k56:=E56.keep
 simp only at k56
 simp (disch:=omega) [go_sem,reI,wanted,B.zOb,↓PO_iaddr,gA,gN,gM,gE,gn,l0,m0,l1,m1,l2,m2,l3,m3,l4,m4,l5,m5,l6,m6,l7,m7,k52,k53,k55,k56]
 refine(bool14_tells H.chaselaw14_b E56.wf true).use fun q57 e57=> ?_
 have E57:=E56.trans e57
 have k57:=E57.keep
 simp only at k57
 simp (disch:=omega) [go_sem,reI,wanted,B.zOb,↓PO_iaddr,gA,gN,gM,gE,gn,l0,m0,l1,m1,l2,m2,l3,m3,l4,m4,l5,m5,l6,m6,l7,m7,k53,k55,k56,k57]
 have E58:=E57.consN (o:= .cells 451 false (obsA [obBool true])) (Nat.lt_succ_self _)
 have t12:=gives14_tells H.chaselaw14_gives E58.wf (RdO.made (m:=q57.nx) (ty:=451) (l:=[obBool true]) (by simp[hget_cons]) rfl) (hB.ext E58 wB) (by simp) hS (hp0.ext E58 wB) (hb0.ext E58 wB) [110,111,116] (obBool false)
 rw[kw12]at t12
 refine(t12).use fun q59 e59=> ?_
 have E59:=E58.trans e59
 have k59:=E59.keep
 simp only at k59
 simp (disch:=omega) [go_sem,reI,wanted,B.zOb,↓PO_iaddr,gA,gN,gM,gE,gn,l0,m0,l1,m1,l2,m2,l3,m3,l4,m4,l5,m5,l6,m6,l7,m7,k55,k56,k57,k59]
 have i60:=InS.startE E59 (M:=q59.nx+58) (by simp)
 have nb60:NB≤q59.nx:=E59.nx
 refine(real14_tells H.chaselaw14_r i60.1.wf (-1638400)).use fun q61 e61=> ?_
 have i61:=i60.call e61
 have k61:=i61.look
 simp only at k61
 simp (disch:=omega) [go_sem,reI,wanted,B.zOb,↓PO_iaddr,gA,gN,gM,gE,gn,l0,m0,l1,m1,l2,m2,l3,m3,l4,m4,l5,m5,l6,m6,l7,m7,k56,k57,k59,k61]
 have i62:=i61.new (q59.nx) (.cells 451 false (obsA [obS 2 [45,50,46,53,101,49]])) (show NB≤_ by omega) (by omega) (by omega)
 have t13:=gives14_tells H.chaselaw14_gives i62.1.wf (RdO.made (m:=q59.nx) (ty:=451) (l:=[obS 2 [45,50,46,53,101,49]]) (by simp[hget_cons]) rfl) (hB.ext i62.1 wB) (by simp) hS (hp0.ext i62.1 wB) (hb0.ext i62.1 wB) [99,118,114] (obReal (-1638400))
 rw[kw13]at t13
 refine(t13).use fun q63 e63=> ?_
 have i63:=i62.call e63
 have k63:=i63.look
 simp only at k63
 simp (disch:=omega) [go_sem,reI,wanted,B.zOb,↓PO_iaddr,gA,gN,gM,gE,gn,l0,m0,l1,m1,l2,m2,l3,m3,l4,m4,l5,m5,l6,m6,l7,m7,k57,k59,k61,k63]
 refine(int14_tells H.chaselaw14_i i63.1.wf (-25)).use fun q64 e64=> ?_
 have i64:=i63.call e64
 have k64:=i64.look
 simp only at k64
 simp (disch:=omega) [go_sem,reI,wanted,B.zOb,↓PO_iaddr,gA,gN,gM,gE,gn,l0,m0,l1,m1,l2,m2,l3,m3,l4,m4,l5,m5,l6,m6,l7,m7,k59,k61,k63,k64]
 have i65:=i64.new (q59.nx+1) (.cells 451 false (obsA [obS 2 [45,50,46,53,101,49]])) (show NB≤_ by omega) (by omega) (by omega)
 have t14:=gives14_tells H.chaselaw14_gives i65.1.wf (RdO.made (m:=q59.nx+1) (ty:=451) (l:=[obS 2 [45,50,46,53,101,49]]) (by simp[hget_cons]) rfl) (hB.ext i65.1 wB) (by simp) hS (hp0.ext i65.1 wB) (hb0.ext i65.1 wB) [99,118,105] (obInt (-25))
 rw[kw14]at t14
 refine(t14).use fun q66 e66=> ?_
 have i66:=i65.call e66
 have k66:=i66.look
 simp only at k66
 simp (disch:=omega) [go_sem,reI,wanted,B.zOb,↓PO_iaddr,gA,gN,gM,gE,gn,l0,m0,l1,m1,l2,m2,l3,m3,l4,m4,l5,m5,l6,m6,l7,m7,k61,k63,k64,k66]
 refine(int14_tells H.chaselaw14_i i66.1.wf 1).use fun q67 e67=> ?_
 have i67:=i66.call e67
 have k67:=i67.look
 simp only at k67
 simp (disch:=omega) [go_sem,reI,wanted,B.zOb,↓PO_iaddr,gA,gN,gM,gE,gn,l0,m0,l1,m1,l2,m2,l3,m3,l4,m4,l5,m5,l6,m6,l7,m7,k63,k64,k66,k67]
 have i68:=i67.new (q59.nx+2) (.cells 451 false (obsA [obS 7 [49,46,53]])) (show NB≤_ by omega) (by omega) (by omega)
 have t15:=gives14_tells H.chaselaw14_gives i68.1.wf (RdO.made (m:=q59.nx+2) (ty:=451) (l:=[obS 7 [49,46,53]]) (by simp[hget_cons]) rfl) (hB.ext i68.1 wB) (by simp) hS (hp0.ext i68.1 wB) (hb0.ext i68.1 wB) [99,118,105] (obInt 1)
 rw[kw15]at t15
 refine(t15).use fun q69 e69=> ?_
 have i69:=i68.call e69
 have k69:=i69.look
 simp only at k69
 simp (disch:=omega) [go_sem,reI,wanted,B.zOb,↓PO_iaddr,gA,gN,gM,gE,gn,l0,m0,l1,m1,l2,m2,l3,m3,l4,m4,l5,m5,l6,m6,l7,m7,k64,k66,k67,k69]
 refine(int14_tells H.chaselaw14_i i69.1.wf (-2)).use fun q70 e70=> ?_
 have i70:=i69.call e70
 have k70:=i70.look
 simp only at k70
 simp (disch:=omega) [go_sem,reI,wanted,B.zOb,↓PO_iaddr,gA,gN,gM,gE,gn,l0,m0,l1,m1,l2,m2,l3,m3,l4,m4,l5,m5,l6,m6,l7,m7,k66,k67,k69,k70]
 refine(real14_tells H.chaselaw14_r i70.1.wf (-180224)).use fun q71 e71=> ?_
 have i71:=i70.call e71
 have k71:=i71.look
 simp only at k71
 simp (disch:=omega) [go_sem,reI,wanted,B.zOb,↓PO_iaddr,gA,gN,gM,gE,gn,l0,m0,l1,m1,l2,m2,l3,m3,l4,m4,l5,m5,l6,m6,l7,m7,k67,k69,k70,k71]
 have i72:=i71.new (q59.nx+3) (.cells 451 false (obsA [obReal (-180224)])) (show NB≤_ by omega) (by omega) (by omega)
 have t16:=gives14_tells H.chaselaw14_gives i72.1.wf (RdO.made (m:=q59.nx+3) (ty:=451) (l:=[obReal (-180224)]) (by simp[hget_cons]) rfl) (hB.ext i72.1 wB) (by simp) hS (hp0.ext i72.1 wB) (hb0.ext i72.1 wB) [99,118,105] (obInt (-2))
 rw[kw16]at t16
 refine(t16).use fun q73 e73=> ?_
 have i73:=i72.call e73
 have k73:=i73.look
 simp only at k73
 simp (disch:=omega) [go_sem,reI,wanted,B.zOb,↓PO_iaddr,gA,gN,gM,gE,gn,l0,m0,l1,m1,l2,m2,l3,m3,l4,m4,l5,m5,l6,m6,l7,m7,k69,k70,k71,k73]
 have i74:=i73.new (q59.nx+4) (.cells 451 false (obsA [knE])) (show NB≤_ by omega) (by omega) (by omega)
 have t17:=gives14_tells H.chaselaw14_gives i74.1.wf (RdO.made (m:=q59.nx+4) (ty:=451) (l:=[knE]) (by simp[hget_cons]) rfl) (hB.ext i74.1 wB) (by simp) hS (hp0.ext i74.1 wB) (hb0.ext i74.1 wB) [99,118,110] ⟨5,true,0,[97,98,99],0,0,0⟩
 rw[kw17]at t17
 refine(t17).use fun q75 e75=> ?_
 have i75:=i74.call e75
 have k75:=i75.look
 simp only at k75
 simp (disch:=omega) [go_sem,reI,wanted,B.zOb,↓PO_iaddr,gA,gN,gM,gE,gn,l0,m0,l1,m1,l2,m2,l3,m3,l4,m4,l5,m5,l6,m6,l7,m7,k70,k71,k73,k75]
 have t18:=gives14_tells H.chaselaw14_gives i75.1.wf (RdO.nil _) (hB.ext i75.1 wB) (by simp) hS (hp0.ext i75.1 wB) (hb0.ext i75.1 wB) [110,117,108,108] obZ
 rw[kw18]at t18
 refine(t18).use fun q76 e76=> ?_
 have i76:=i75.call e76
 have k76:=i76.look
 simp only at k76
 simp (disch:=omega) [go_sem,reI,wanted,B.zOb,↓PO_iaddr,gA,gN,gM,gE,gn,l0,m0,l1,m1,l2,m2,l3,m3,l4,m4,l5,m5,l6,m6,l7,m7,k71,k73,k75,k76]
 refine(bool14_tells H.chaselaw14_b i76.1.wf true).use fun q77 e77=> ?_
 have i77:=i76.call e77
 have k77:=i77.look
 simp only at k77
 simp (disch:=omega) [go_sem,reI,wanted,B.zOb,↓PO_iaddr,gA,gN,gM,gE,gn,l0,m0,l1,m1,l2,m2,l3,m3,l4,m4,l5,m5,l6,m6,l7,m7,k73,k75,k76,k77]
 have t19:=gives14_tells H.chaselaw14_gives i77.1.wf (RdO.nil _) (hB.ext i77.1 wB) (by simp) hS (hp0.ext i77.1 wB) (hb0.ext i77.1 wB) [116,114,117,101] (obBool true)
 rw[kw19]at t19
 refine(t19).use fun q78 e78=> ?_
 have i78:=i77.call e78
 have k78:=i78.look
 simp only at k78
 simp (disch:=omega) [go_sem,reI,wanted,B.zOb,↓PO_iaddr,gA,gN,gM,gE,gn,l0,m0,l1,m1,l2,m2,l3,m3,l4,m4,l5,m5,l6,m6,l7,m7,k75,k76,k77,k78]
 refine(bool14_tells H.chaselaw14_b i78.1.wf false).use fun q79 e79=> ?_
 have i79:=i78.call e79
 have k79:=i79.look
 simp only at k79
 simp (disch:=omega) [go_sem,reI,wanted,B.zOb,↓PO_iaddr,gA,gN,gM,gE,gn,l0,m0,l1,m1,l2,m2,l3,m3,l4,m4,l5,m5,l6,m6,l7,m7,k76,k77,k78,k79]
 have t20:=gives14_tells H.chaselaw14_gives i79.1.wf (RdO.nil _) (hB.ext i79.1 wB) (by simp) hS (hp0.ext i79.1 wB) (hb0.ext i79.1 wB) [102,97,108,115,101] (obBool false)
 rw[kw20]at t20
 refine(t20).use fun q80 e80=> ?_
 have i80:=i79.call e80
 have k80:=i80.look
 simp only at k80
 simp (disch:=omega) [go_sem,reI,wanted,B.zOb,↓PO_iaddr,gA,gN,gM,gE,gn,l0,m0,l1,m1,l2,m2,l3,m3,l4,m4,l5,m5,l6,m6,l7,m7,k77,k78,k79,k80]
 have E80:=i80.1
 have i81:=InS.startE E80 (M:=q80.nx+63) (by simp)
 have nb81:NB≤q80.nx:=E80.nx
 refine(real14_tells H.chaselaw14_r i81.1.wf 32768).use fun q82 e82=> ?_
 have i82:=i81.call e82
 have k82:=i82.look
 simp only at k82
 simp (disch:=omega) [go_sem,reI,wanted,B.zOb,↓PO_iaddr,gA,gN,gM,gE,gn,l0,m0,l1,m1,l2,m2,l3,m3,l4,m4,l5,m5,l6,m6,l7,m7,k78,k79,k80,k82]
 have i83:=i82.new (q80.nx) (.cells 451 false (obsA [obReal 32768,obS 5 [97,98,99,100]])) (show NB≤_ by omega) (by omega) (by omega)
 have t21:=writes14_tells H.chaselaw14_writes i83.1.wf (RdO.made (m:=q80.nx) (ty:=451) (l:=[obReal 32768,obS 5 [97,98,99,100]]) (by simp[hget_cons]) rfl) (hB.ext i83.1 wB) (by simp) (by simp) hS (hp0.ext i83.1 wB) (hb0.ext i83.1 wB) [99,118,115] [48,46,53]
 rw[kw21]at t21
 refine(t21).use fun q84 e84=> ?_
 have i84:=i83.call e84
 have k84:=i84.look
 simp only at k84
 simp (disch:=omega) [go_sem,reI,wanted,B.zOb,↓PO_iaddr,gA,gN,gM,gE,gn,l0,m0,l1,m1,l2,m2,l3,m3,l4,m4,l5,m5,l6,m6,l7,m7,k79,k80,k82,k84]
 refine(int14_tells H.chaselaw14_i i84.1.wf (-1)).use fun q85 e85=> ?_
 have i85:=i84.call e85
 have k85:=i85.look
 simp only at k85
 simp (disch:=omega) [go_sem,reI,wanted,B.zOb,↓PO_iaddr,gA,gN,gM,gE,gn,l0,m0,l1,m1,l2,m2,l3,m3,l4,m4,l5,m5,l6,m6,l7,m7,k80,k82,k84,k85]
 refine(int14_tells H.chaselaw14_i i85.1.wf 16).use fun q86 e86=> ?_
 have i86:=i85.call e86
 have k86:=i86.look
 simp only at k86
 simp (disch:=omega) [go_sem,reI,wanted,B.zOb,↓PO_iaddr,gA,gN,gM,gE,gn,l0,m0,l1,m1,l2,m2,l3,m3,l4,m4,l5,m5,l6,m6,l7,m7,k82,k84,k85,k86]
 have i87:=i86.new (q80.nx+1) (.cells 451 false (obsA [obInt (-1),obInt 16,obS 4 [49,50,51,52,53,54,55,56]])) (show NB≤_ by omega) (by omega) (by omega)
 have t22:=writes14_tells H.chaselaw14_writes i87.1.wf (RdO.made (m:=q80.nx+1) (ty:=451) (l:=[obInt (-1),obInt 16,obS 4 [49,50,51,52,53,54,55,56]]) (by simp[hget_cons]) rfl) (hB.ext i87.1 wB) (by simp) (by simp) hS (hp0.ext i87.1 wB) (hb0.ext i87.1 wB) [99,118,114,115] [70,70,70,70,70,70,70,70]
 rw[kw22]at t22
 refine(t22).use fun q88 e88=> ?_
 have i88:=i87.call e88
 have k88:=i88.look
 simp only at k88
 simp (disch:=omega) [go_sem,reI,wanted,B.zOb,↓PO_iaddr,gA,gN,gM,gE,gn,l0,m0,l1,m1,l2,m2,l3,m3,l4,m4,l5,m5,l6,m6,l7,m7,k84,k85,k86,k88]
 refine(real14_tells H.chaselaw14_r i88.1.wf 180224).use fun q89 e89=> ?_
 have i89:=i88.call e89
 have k89:=i89.look
 simp only at k89
 simp (disch:=omega) [go_sem,reI,wanted,B.zOb,↓PO_iaddr,gA,gN,gM,gE,gn,l0,m0,l1,m1,l2,m2,l3,m3,l4,m4,l5,m5,l6,m6,l7,m7,k85,k86,k88,k89]
 refine(int14_tells H.chaselaw14_i i89.1.wf 10).use fun q90 e90=> ?_
 have i90:=i89.call e90
 have k90:=i90.look
 simp only at k90
 simp (disch:=omega) [go_sem,reI,wanted,B.zOb,↓PO_iaddr,gA,gN,gM,gE,gn,l0,m0,l1,m1,l2,m2,l3,m3,l4,m4,l5,m5,l6,m6,l7,m7,k86,k88,k89,k90]
 have i91:=i90.new (q80.nx+2) (.cells 451 false (obsA [obReal 180224,obInt 10,obS 5 [97,98,99,100]])) (show NB≤_ by omega) (by omega) (by omega)
 have t23:=writes14_tells H.chaselaw14_writes i91.1.wf (RdO.made (m:=q80.nx+2) (ty:=451) (l:=[obReal 180224,obInt 10,obS 5 [97,98,99,100]]) (by simp[hget_cons]) rfl) (hB.ext i91.1 wB) (by simp) (by simp) hS (hp0.ext i91.1 wB) (hb0.ext i91.1 wB) [99,118,114,115] [50,46,55,53]
 rw[kw23]at t23
 refine(t23).use fun q92 e92=> ?_
 have i92:=i91.call e92
 have k92:=i92.look
 simp only at k92
 simp (disch:=omega) [go_sem,reI,wanted,B.zOb,↓PO_iaddr,gA,gN,gM,gE,gn,l0,m0,l1,m1,l2,m2,l3,m3,l4,m4,l5,m5,l6,m6,l7,m7,k88,k89,k90,k92]
 refine(real14_tells H.chaselaw14_r i92.1.wf 180224).use fun q93 e93=> ?_
 have i93:=i92.call e93
 have k93:=i93.look
 simp only at k93
 simp (disch:=omega) [go_sem,reI,wanted,B.zOb,↓PO_iaddr,gA,gN,gM,gE,gn,l0,m0,l1,m1,l2,m2,l3,m3,l4,m4,l5,m5,l6,m6,l7,m7,k89,k90,k92,k93]
 refine(int14_tells H.chaselaw14_i i93.1.wf 16).use fun q94 e94=> ?_
 have i94:=i93.call e94
 have k94:=i94.look
 simp only at k94
 simp (disch:=omega) [go_sem,reI,wanted,B.zOb,↓PO_iaddr,gA,gN,gM,gE,gn,l0,m0,l1,m1,l2,m2,l3,m3,l4,m4,l5,m5,l6,m6,l7,m7,k90,k92,k93,k94]
 have i95:=i94.new (q80.nx+3) (.cells 451 false (obsA [obReal 180224,obInt 16,obS 5 [97,98,99,100]])) (show NB≤_ by omega) (by omega) (by omega)
 have t24:=writes14_tells H.chaselaw14_writes i95.1.wf (RdO.made (m:=q80.nx+3) (ty:=451) (l:=[obReal 180224,obInt 16,obS 5 [97,98,99,100]]) (by simp[hget_cons]) rfl) (hB.ext i95.1 wB) (by simp) (by simp) hS (hp0.ext i95.1 wB) (hb0.ext i95.1 wB) [99,118,114,115] [50]
 rw[kw24]at t24
 refine(t24).use fun q96 e96=> ?_
 have i96:=i95.call e96
 have k96:=i96.look
 simp only at k96
 simp (disch:=omega) [go_sem,reI,wanted,B.zOb,↓PO_iaddr,gA,gN,gM,gE,gn,l0,m0,l1,m1,l2,m2,l3,m3,l4,m4,l5,m5,l6,m6,l7,m7,k92,k93,k94,k96]
 have i97:=i96.new (q80.nx+4) (.cells 451 false (obsA [knN,obS 0 [97]])) (show NB≤_ by omega) (by omega) (by omega)
 have t25:=writes14_tells H.chaselaw14_writes i97.1.wf (RdO.made (m:=q80.nx+4) (ty:=451) (l:=[knN,obS 0 [97]]) (by simp[hget_cons]) rfl) (hB.ext i97.1 wB) (by simp) (by simp) hS (hp0.ext i97.1 wB) (hb0.ext i97.1 wB) [99,118,115] [97]
 rw[kw25]at t25
 refine(t25).use fun q98 e98=> ?_
 have i98:=i97.call e98
 have k98:=i98.look
 simp only at k98
 simp (disch:=omega) [go_sem,reI,wanted,B.zOb,↓PO_iaddr,gA,gN,gM,gE,gn,l0,m0,l1,m1,l2,m2,l3,m3,l4,m4,l5,m5,l6,m6,l7,m7,k93,k94,k96,k98]
 have i99:=i98.new (q80.nx+5) (.cells 451 false (obsA [obS 3 [97,98,99],obS 3 [97,98,99]])) (show NB≤_ by omega) (by omega) (by omega)
 have t26:=writes14_tells H.chaselaw14_writes i99.1.wf (RdO.made (m:=q80.nx+5) (ty:=451) (l:=[obS 3 [97,98,99],obS 3 [97,98,99]]) (by simp[hget_cons]) rfl) (hB.ext i99.1 wB) (by simp) (by simp) hS (hp0.ext i99.1 wB) (hb0.ext i99.1 wB) [99,118,115] [97,98,99]
 rw[kw26]at t26
 refine(t26).use fun q100 e100=> ?_
 have i100:=i99.call e100
 have k100:=i100.look
 simp only at k100
 simp (disch:=omega) [go_sem,reI,wanted,B.zOb,↓PO_iaddr,gA,gN,gM,gE,gn,l0,m0,l1,m1,l2,m2,l3,m3,l4,m4,l5,m5,l6,m6,l7,m7,k94,k96,k98,k100]
 have E100:=i100.1
 have i101:=InS.startE E100 (M:=q100.nx+151) (by simp)
 have nb101:NB≤q100.nx:=E100.nx
 refine(int14_tells H.chaselaw14_i i101.1.wf 1).use fun q102 e102=> ?_
 have i102:=i101.call e102
 have k102:=i102.look
 simp only at k102
 simp (disch:=omega) [go_sem,reI,wanted,B.zOb,↓PO_iaddr,gA,gN,gM,gE,gn,l0,m0,l1,m1,l2,m2,l3,m3,l4,m4,l5,m5,l6,m6,l7,m7,k96,k98,k100,k102]
 refine(bool14_tells H.chaselaw14_b i102.1.wf true).use fun q103 e103=> ?_
 have i103:=i102.call e103
 have k103:=i103.look
 simp only at k103
 simp (disch:=omega) [go_sem,reI,wanted,B.zOb,↓PO_iaddr,gA,gN,gM,gE,gn,l0,m0,l1,m1,l2,m2,l3,m3,l4,m4,l5,m5,l6,m6,l7,m7,k98,k100,k102,k103]
 have i104:=i103.new (q100.nx) (.cells 451 false (obsA [obInt 1,obBool true])) (show NB≤_ by omega) (by omega) (by omega)
 have t27:=fails14_tells H.chaselaw14_fails i104.1.wf (RdO.made (m:=q100.nx) (ty:=451) (l:=[obInt 1,obBool true]) (by simp[hget_cons]) rfl) (hB.ext i104.1 wB) (by simp) (by decide) (strH_L _) hS (hp0.ext i104.1 wB) (hb0.ext i104.1 wB) [97,110,100] 22 (by decide)
 rw[kw27]at t27
 refine(t27).use fun q105 e105=> ?_
 have i105:=i104.call e105
 have k105:=i105.look
 simp only at k105
 simp (disch:=omega) [go_sem,reI,wanted,B.zOb,↓PO_iaddr,gA,gN,gM,gE,gn,l0,m0,l1,m1,l2,m2,l3,m3,l4,m4,l5,m5,l6,m6,l7,m7,k100,k102,k103,k105]
 refine(real14_tells H.chaselaw14_r i105.1.wf 65536).use fun q106 e106=> ?_
 have i106:=i105.call e106
 have k106:=i106.look
 simp only at k106
 simp (disch:=omega) [go_sem,reI,wanted,B.zOb,↓PO_iaddr,gA,gN,gM,gE,gn,l0,m0,l1,m1,l2,m2,l3,m3,l4,m4,l5,m5,l6,m6,l7,m7,k102,k103,k105,k106]
 have i107:=i106.new (q100.nx+1) (.cells 451 false (obsA [obReal 65536])) (show NB≤_ by omega) (by omega) (by omega)
 have t28:=fails14_tells H.chaselaw14_fails i107.1.wf (RdO.made (m:=q100.nx+1) (ty:=451) (l:=[obReal 65536]) (by simp[hget_cons]) rfl) (hB.ext i107.1 wB) (by simp) (by decide) (strH_L _) hS (hp0.ext i107.1 wB) (hb0.ext i107.1 wB) [110,111,116] 22 (by decide)
 rw[kw28]at t28
 refine(t28).use fun q108 e108=> ?_
 have i108:=i107.call e108
 have k108:=i108.look
 simp only at k108
 simp (disch:=omega) [go_sem,reI,wanted,B.zOb,↓PO_iaddr,gA,gN,gM,gE,gn,l0,m0,l1,m1,l2,m2,l3,m3,l4,m4,l5,m5,l6,m6,l7,m7,k103,k105,k106,k108]
 refine(int14_tells H.chaselaw14_i i108.1.wf 1).use fun q109 e109=> ?_
 have i109:=i108.call e109
 have k109:=i109.look
 simp only at k109
 simp (disch:=omega) [go_sem,reI,wanted,B.zOb,↓PO_iaddr,gA,gN,gM,gE,gn,l0,m0,l1,m1,l2,m2,l3,m3,l4,m4,l5,m5,l6,m6,l7,m7,k105,k106,k108,k109]
 have i110:=i109.new (q100.nx+2) (.cells 451 false (obsA [obInt 1,obS 0 [97]])) (show NB≤_ by omega) (by omega) (by omega)
 have t29:=fails14_tells H.chaselaw14_fails i110.1.wf (RdO.made (m:=q100.nx+2) (ty:=451) (l:=[obInt 1,obS 0 [97]]) (by simp[hget_cons]) rfl) (hB.ext i110.1 wB) (by simp) (by decide) (strH_L _) hS (hp0.ext i110.1 wB) (hb0.ext i110.1 wB) [108,116] 22 (by decide)
 rw[kw29]at t29
 refine(t29).use fun q111 e111=> ?_
 have i111:=i110.call e111
 have k111:=i111.look
 simp only at k111
 simp (disch:=omega) [go_sem,reI,wanted,B.zOb,↓PO_iaddr,gA,gN,gM,gE,gn,l0,m0,l1,m1,l2,m2,l3,m3,l4,m4,l5,m5,l6,m6,l7,m7,k106,k108,k109,k111]
 have i112:=i111.new (q100.nx+3) (.cells 451 false (obsA [knN,knN])) (show NB≤_ by omega) (by omega) (by omega)
 have t30:=fails14_tells H.chaselaw14_fails i112.1.wf (RdO.made (m:=q100.nx+3) (ty:=451) (l:=[knN,knN]) (by simp[hget_cons]) rfl) (hB.ext i112.1 wB) (by simp) (by decide) (strH_L _) hS (hp0.ext i112.1 wB) (hb0.ext i112.1 wB) [108,116] 22 (by decide)
 rw[kw30]at t30
 refine(t30).use fun q113 e113=> ?_
 have i113:=i112.call e113
 have k113:=i113.look
 simp only at k113
 simp (disch:=omega) [go_sem,reI,wanted,B.zOb,↓PO_iaddr,gA,gN,gM,gE,gn,l0,m0,l1,m1,l2,m2,l3,m3,l4,m4,l5,m5,l6,m6,l7,m7,k108,k109,k111,k113]
 have i114:=i113.new (q100.nx+4) (.cells 451 false (obsA [obS 1 [57,57,57,57,57,57,57,57,57,57,57]])) (show NB≤_ by omega) (by omega) (by omega)
 have t31:=fails14_tells H.chaselaw14_fails i114.1.wf (RdO.made (m:=q100.nx+4) (ty:=451) (l:=[obS 1 [57,57,57,57,57,57,57,57,57,57,57]]) (by simp[hget_cons]) rfl) (hB.ext i114.1 wB) (by simp) (by decide) (strH_L _) hS (hp0.ext i114.1 wB) (hb0.ext i114.1 wB) [99,118,105] 23 (by decide)
 rw[kw31]at t31
 refine(t31).use fun q115 e115=> ?_
 have i115:=i114.call e115
 have k115:=i115.look
 simp only at k115
 simp (disch:=omega) [go_sem,reI,wanted,B.zOb,↓PO_iaddr,gA,gN,gM,gE,gn,l0,m0,l1,m1,l2,m2,l3,m3,l4,m4,l5,m5,l6,m6,l7,m7,k109,k111,k113,k115]
 have i116:=i115.new (q100.nx+5) (.cells 451 false (obsA [obS 1 [57,57,57,57,57,57,57,57,57,57,57]])) (show NB≤_ by omega) (by omega) (by omega)
 have t32:=fails14_tells H.chaselaw14_fails i116.1.wf (RdO.made (m:=q100.nx+5) (ty:=451) (l:=[obS 1 [57,57,57,57,57,57,57,57,57,57,57]]) (by simp[hget_cons]) rfl) (hB.ext i116.1 wB) (by simp) (by decide) (strH_L _) hS (hp0.ext i116.1 wB) (hb0.ext i116.1 wB) [99,118,114] 23 (by decide)
 rw[kw32]at t32
 refine(t32).use fun q117 e117=> ?_
 have i117:=i116.call e117
 have k117:=i117.look
 simp only at k117
 simp (disch:=omega) [go_sem,reI,wanted,B.zOb,↓PO_iaddr,gA,gN,gM,gE,gn,l0,m0,l1,m1,l2,m2,l3,m3,l4,m4,l5,m5,l6,m6,l7,m7,k111,k113,k115,k117]
 refine(int14_tells H.chaselaw14_i i117.1.wf 40000).use fun q118 e118=> ?_
 have i118:=i117.call e118
 have k118:=i118.look
 simp only at k118
 simp (disch:=omega) [go_sem,reI,wanted,B.zOb,↓PO_iaddr,gA,gN,gM,gE,gn,l0,m0,l1,m1,l2,m2,l3,m3,l4,m4,l5,m5,l6,m6,l7,m7,k113,k115,k117,k118]
 have i119:=i118.new (q100.nx+6) (.cells 451 false (obsA [obInt 40000])) (show NB≤_ by omega) (by omega) (by omega)
 have t33:=fails14_tells H.chaselaw14_fails i119.1.wf (RdO.made (m:=q100.nx+6) (ty:=451) (l:=[obInt 40000]) (by simp[hget_cons]) rfl) (hB.ext i119.1 wB) (by simp) (by decide) (strH_L _) hS (hp0.ext i119.1 wB) (hb0.ext i119.1 wB) [99,118,114] 25 (by decide)
 rw[kw33]at t33
 refine(t33).use fun q120 e120=> ?_
 have i120:=i119.call e120
 have k120:=i120.look
 simp only at k120
 simp (disch:=omega) [go_sem,reI,wanted,B.zOb,↓PO_iaddr,gA,gN,gM,gE,gn,l0,m0,l1,m1,l2,m2,l3,m3,l4,m4,l5,m5,l6,m6,l7,m7,k115,k117,k118,k120]
 have i121:=i120.new (q100.nx+7) (.cells 451 false (obsA [knM,obS 3 [97,98,99]])) (show NB≤_ by omega) (by omega) (by omega)
 have t34:=fails14_tells H.chaselaw14_fails i121.1.wf (RdO.made (m:=q100.nx+7) (ty:=451) (l:=[knM,obS 3 [97,98,99]]) (by simp[hget_cons]) rfl) (hB.ext i121.1 wB) (by simp) (by decide) (strH_L _) hS (hp0.ext i121.1 wB) (hb0.ext i121.1 wB) [99,118,115] 23 (by decide)
 rw[kw34]at t34
 refine(t34).use fun q122 e122=> ?_
 have i122:=i121.call e122
 have k122:=i122.look
 simp only at k122
 simp (disch:=omega) [go_sem,reI,wanted,B.zOb,↓PO_iaddr,gA,gN,gM,gE,gn,l0,m0,l1,m1,l2,m2,l3,m3,l4,m4,l5,m5,l6,m6,l7,m7,k117,k118,k120,k122]
 have i123:=i122.new (q100.nx+8) (.cells 451 false (obsA [obS 3 [97,98,99],knN])) (show NB≤_ by omega) (by omega) (by omega)
 have t35:=fails14_tells H.chaselaw14_fails i123.1.wf (RdO.made (m:=q100.nx+8) (ty:=451) (l:=[obS 3 [97,98,99],knN]) (by simp[hget_cons]) rfl) (hB.ext i123.1 wB) (by simp) (by decide) (strH_L _) hS (hp0.ext i123.1 wB) (hb0.ext i123.1 wB) [99,118,115] 22 (by decide)
 rw[kw35]at t35
 refine(t35).use fun q124 e124=> ?_
 have i124:=i123.call e124
 have k124:=i124.look
 simp only at k124
 simp (disch:=omega) [go_sem,reI,wanted,B.zOb,↓PO_iaddr,gA,gN,gM,gE,gn,l0,m0,l1,m1,l2,m2,l3,m3,l4,m4,l5,m5,l6,m6,l7,m7,k118,k120,k122,k124]
 refine(int14_tells H.chaselaw14_i i124.1.wf 1).use fun q125 e125=> ?_
 have i125:=i124.call e125
 have k125:=i125.look
 simp only at k125
 simp (disch:=omega) [go_sem,reI,wanted,B.zOb,↓PO_iaddr,gA,gN,gM,gE,gn,l0,m0,l1,m1,l2,m2,l3,m3,l4,m4,l5,m5,l6,m6,l7,m7,k120,k122,k124,k125]
 refine(int14_tells H.chaselaw14_i i125.1.wf 37).use fun q126 e126=> ?_
 have i126:=i125.call e126
 have k126:=i126.look
 simp only at k126
 simp (disch:=omega) [go_sem,reI,wanted,B.zOb,↓PO_iaddr,gA,gN,gM,gE,gn,l0,m0,l1,m1,l2,m2,l3,m3,l4,m4,l5,m5,l6,m6,l7,m7,k122,k124,k125,k126]
 have i127:=i126.new (q100.nx+9) (.cells 451 false (obsA [obInt 1,obInt 37,obS 3 [97,98,99]])) (show NB≤_ by omega) (by omega) (by omega)
 have t36:=fails14_tells H.chaselaw14_fails i127.1.wf (RdO.made (m:=q100.nx+9) (ty:=451) (l:=[obInt 1,obInt 37,obS 3 [97,98,99]]) (by simp[hget_cons]) rfl) (hB.ext i127.1 wB) (by simp) (by decide) (strH_L _) hS (hp0.ext i127.1 wB) (hb0.ext i127.1 wB) [99,118,114,115] 23 (by decide)
 rw[kw36]at t36
 refine(t36).use fun q128 e128=> ?_
 have i128:=i127.call e128
 have k128:=i128.look
 simp only at k128
 simp (disch:=omega) [go_sem,reI,wanted,B.zOb,↓PO_iaddr,gA,gN,gM,gE,gn,l0,m0,l1,m1,l2,m2,l3,m3,l4,m4,l5,m5,l6,m6,l7,m7,k124,k125,k126,k128]
 refine(int14_tells H.chaselaw14_i i128.1.wf 8).use fun q129 e129=> ?_
 have i129:=i128.call e129
 have k129:=i129.look
 simp only at k129
 simp (disch:=omega) [go_sem,reI,wanted,B.zOb,↓PO_iaddr,gA,gN,gM,gE,gn,l0,m0,l1,m1,l2,m2,l3,m3,l4,m4,l5,m5,l6,m6,l7,m7,k125,k126,k128,k129]
 refine(int14_tells H.chaselaw14_i i129.1.wf 2).use fun q130 e130=> ?_
 have i130:=i129.call e130
 have k130:=i130.look
 simp only at k130
 simp (disch:=omega) [go_sem,reI,wanted,B.zOb,↓PO_iaddr,gA,gN,gM,gE,gn,l0,m0,l1,m1,l2,m2,l3,m3,l4,m4,l5,m5,l6,m6,l7,m7,k126,k128,k129,k130]
 have i131:=i130.new (q100.nx+10) (.cells 451 false (obsA [obInt 8,obInt 2,obS 3 [97,98,99]])) (show NB≤_ by omega) (by omega) (by omega)
 have t37:=fails14_tells H.chaselaw14_fails i131.1.wf (RdO.made (m:=q100.nx+10) (ty:=451) (l:=[obInt 8,obInt 2,obS 3 [97,98,99]]) (by simp[hget_cons]) rfl) (hB.ext i131.1 wB) (by simp) (by decide) (strH_L _) hS (hp0.ext i131.1 wB) (hb0.ext i131.1 wB) [99,118,114,115] 23 (by decide)
 rw[kw37]at t37
 refine(t37).use fun q132 e132=> ?_
 have i132:=i131.call e132
 have k132:=i132.look
 simp only at k132
 simp (disch:=omega) [go_sem,reI,wanted,B.zOb,↓PO_iaddr,gA,gN,gM,gE,gn,l0,m0,l1,m1,l2,m2,l3,m3,l4,m4,l5,m5,l6,m6,l7,m7,k128,k129,k130,k132]
 refine(int14_tells H.chaselaw14_i i132.1.wf 1).use fun q133 e133=> ?_
 have i133:=i132.call e133
 have k133:=i133.look
 simp only at k133
 simp (disch:=omega) [go_sem,reI,wanted,B.zOb,↓PO_iaddr,gA,gN,gM,gE,gn,l0,m0,l1,m1,l2,m2,l3,m3,l4,m4,l5,m5,l6,m6,l7,m7,k129,k130,k132,k133]
 refine(real14_tells H.chaselaw14_r i133.1.wf 37).use fun q134 e134=> ?_
 have i134:=i133.call e134
 have k134:=i134.look
 simp only at k134
 simp (disch:=omega) [go_sem,reI,wanted,B.zOb,↓PO_iaddr,gA,gN,gM,gE,gn,l0,m0,l1,m1,l2,m2,l3,m3,l4,m4,l5,m5,l6,m6,l7,m7,k130,k132,k133,k134]
 have i135:=i134.new (q100.nx+11) (.cells 451 false (obsA [obInt 1,obReal 37,obS 3 [97,98,99]])) (show NB≤_ by omega) (by omega) (by omega)
 have t38:=fails14_tells H.chaselaw14_fails i135.1.wf (RdO.made (m:=q100.nx+11) (ty:=451) (l:=[obInt 1,obReal 37,obS 3 [97,98,99]]) (by simp[hget_cons]) rfl) (hB.ext i135.1 wB) (by simp) (by decide) (strH_L _) hS (hp0.ext i135.1 wB) (hb0.ext i135.1 wB) [99,118,114,115] 22 (by decide)
 rw[kw38]at t38
 refine(t38).use fun q136 e136=> ?_
 have i136:=i135.call e136
 have k136:=i136.look
 simp only at k136
 simp (disch:=omega) [go_sem,reI,wanted,B.zOb,↓PO_iaddr,gA,gN,gM,gE,gn,l0,m0,l1,m1,l2,m2,l3,m3,l4,m4,l5,m5,l6,m6,l7,m7,k132,k133,k134,k136]
 refine(int14_tells H.chaselaw14_i i136.1.wf 1).use fun q137 e137=> ?_
 have i137:=i136.call e137
 have k137:=i137.look
 simp only at k137
 simp (disch:=omega) [go_sem,reI,wanted,B.zOb,↓PO_iaddr,gA,gN,gM,gE,gn,l0,m0,l1,m1,l2,m2,l3,m3,l4,m4,l5,m5,l6,m6,l7,m7,k133,k134,k136,k137]
 have i138:=i137.new (q100.nx+12) (.cells 451 false (obsA [obInt 1,obS 3 [97,98,99]])) (show NB≤_ by omega) (by omega) (by omega)
 have t39:=fails14_tells H.chaselaw14_fails i138.1.wf (RdO.made (m:=q100.nx+12) (ty:=451) (l:=[obInt 1,obS 3 [97,98,99]]) (by simp[hget_cons]) rfl) (hB.ext i138.1 wB) (by simp) (by decide) (strH_L _) hS (hp0.ext i138.1 wB) (hb0.ext i138.1 wB) [99,118,114,115] 20 (by decide)
 rw[kw39]at t39
 refine(t39).use fun q139 e139=> ?_
 have i139:=i138.call e139
 have k139:=i139.look
 simp only at k139
 simp (disch:=omega) [go_sem,reI,wanted,B.zOb,↓PO_iaddr,gA,gN,gM,gE,gn,l0,m0,l1,m1,l2,m2,l3,m3,l4,m4,l5,m5,l6,m6,l7,m7,k134,k136,k137,k139]
 have i140:=i139.new (q100.nx+13) (.cells 451 false (obsA [obS 6 z101])) (show NB≤_ by omega) (by omega) (by omega)
 have t40:=fails14_tells H.chaselaw14_fails i140.1.wf (RdO.made (m:=q100.nx+13) (ty:=451) (l:=[obS 6 z101]) (by simp[hget_cons]) rfl) (hB.ext i140.1 wB) (by simp) (by decide) (strH_L _) hS (hp0.ext i140.1 wB) (hb0.ext i140.1 wB) [99,118,110] 23 (by decide)
 rw[kw40]at t40
 refine(t40).use fun q141 e141=> ?_
 have i141:=i140.call e141
 have k141:=i141.look
 simp only at k141
 simp (disch:=omega) [go_sem,reI,wanted,B.zOb,↓PO_iaddr,gA,gN,gM,gE,gn,l0,m0,l1,m1,l2,m2,l3,m3,l4,m4,l5,m5,l6,m6,l7,m7,k136,k137,k139,k141]
 have i142:=i141.new (q100.nx+14) (.cells 451 false (obsA [knN])) (show NB≤_ by omega) (by omega) (by omega)
 have t41:=fails14_tells H.chaselaw14_fails i142.1.wf (RdO.made (m:=q100.nx+14) (ty:=451) (l:=[knN]) (by simp[hget_cons]) rfl) (hB.ext i142.1 wB) (by simp) (by decide) (strH_L _) hS (hp0.ext i142.1 wB) (hb0.ext i142.1 wB) [99,118,110] 22 (by decide)
 rw[kw41]at t41
 refine(t41).use fun q143 e143=> ?_
 have i143:=i142.call e143
 have k143:=i143.look
 simp only at k143
 simp (disch:=omega) [go_sem,reI,wanted,B.zOb,↓PO_iaddr,gA,gN,gM,gE,gn,l0,m0,l1,m1,l2,m2,l3,m3,l4,m4,l5,m5,l6,m6,l7,m7,k137,k139,k141,k143]
 refine(int14_tells H.chaselaw14_i i143.1.wf 1).use fun q144 e144=> ?_
 have i144:=i143.call e144
 have k144:=i144.look
 simp only at k144
 simp (disch:=omega) [go_sem,reI,wanted,B.zOb,↓PO_iaddr,gA,gN,gM,gE,gn,l0,m0,l1,m1,l2,m2,l3,m3,l4,m4,l5,m5,l6,m6,l7,m7,k139,k141,k143,k144]
 have i145:=i144.new (q100.nx+15) (.cells 451 false (obsA [obInt 1])) (show NB≤_ by omega) (by omega) (by omega)
 have t42:=fails14_tells H.chaselaw14_fails i145.1.wf (RdO.made (m:=q100.nx+15) (ty:=451) (l:=[obInt 1]) (by simp[hget_cons]) rfl) (hB.ext i145.1 wB) (by simp) (by decide) (strH_L _) hS (hp0.ext i145.1 wB) (hb0.ext i145.1 wB) [101,113] 20 (by decide)
 rw[kw42]at t42
 refine(t42).use fun q146 e146=> ?_
 have i146:=i145.call e146
 have k146:=i146.look
 simp only at k146
 simp (disch:=omega) [go_sem,reI,wanted,B.zOb,↓PO_iaddr,gA,gN,gM,gE,gn,l0,m0,l1,m1,l2,m2,l3,m3,l4,m4,l5,m5,l6,m6,l7,m7,k141,k143,k144,k146]
 have t43:=fails14_tells H.chaselaw14_fails i146.1.wf (RdO.nil _) (hB.ext i146.1 wB) (by simp) (by decide) (strH_L _) hS (hp0.ext i146.1 wB) (hb0.ext i146.1 wB) [116,121,112,101] 20 (by decide)
 rw[kw43]at t43
 refine(t43).use fun q147 e147=> ?_
 have i147:=i146.call e147
 have k147:=i147.look
 simp only at k147
 simp (disch:=omega) [go_sem,reI,wanted,B.zOb,↓PO_iaddr,gA,gN,gM,gE,gn,l0,m0,l1,m1,l2,m2,l3,m3,l4,m4,l5,m5,l6,m6,l7,m7,k143,k144,k146,k147]
 refine(int14_tells H.chaselaw14_i i147.1.wf 1).use fun q148 e148=> ?_
 have i148:=i147.call e148
 have k148:=i148.look
 simp only at k148
 simp (disch:=omega) [go_sem,reI,wanted,B.zOb,↓PO_iaddr,gA,gN,gM,gE,gn,l0,m0,l1,m1,l2,m2,l3,m3,l4,m4,l5,m5,l6,m6,l7,m7,k144,k146,k147,k148]
 refine(int14_tells H.chaselaw14_i i148.1.wf 1).use fun q149 e149=> ?_
 have i149:=i148.call e149
 have k149:=i149.look
 simp only at k149
 simp (disch:=omega) [go_sem,reI,wanted,B.zOb,↓PO_iaddr,gA,gN,gM,gE,gn,l0,m0,l1,m1,l2,m2,l3,m3,l4,m4,l5,m5,l6,m6,l7,m7,k146,k147,k148,k149]
 have i150:=i149.new (q100.nx+16) (.cells 451 false (obsA [obInt 1,obInt 1])) (show NB≤_ by omega) (by omega) (by omega)
 have t44:=fails14_tells H.chaselaw14_fails i150.1.wf (RdO.made (m:=q100.nx+16) (ty:=451) (l:=[obInt 1,obInt 1]) (by simp[hget_cons]) rfl) (hB.ext i150.1 wB) (by simp) (by decide) (strH_L _) hS (hp0.ext i150.1 wB) (hb0.ext i150.1 wB) [110,111,114] 24 (by decide)
 rw[kw44]at t44
 refine(t44).use fun q151 e151=> ?_
 have i151:=i150.call e151
 have k151:=i151.look
 simp only at k151
 simp (disch:=omega) [go_sem,reI,wanted,B.zOb,↓PO_iaddr,gA,gN,gM,gE,gn,l0,m0,l1,m1,l2,m2,l3,m3,l4,m4,l5,m5,l6,m6,l7,m7,k147,k148,k149,k151]
 refine(int14_tells H.chaselaw14_i i151.1.wf 1).use fun q152 e152=> ?_
 have i152:=i151.call e152
 have k152:=i152.look
 simp only at k152
 simp (disch:=omega) [go_sem,reI,wanted,B.zOb,↓PO_iaddr,gA,gN,gM,gE,gn,l0,m0,l1,m1,l2,m2,l3,m3,l4,m4,l5,m5,l6,m6,l7,m7,k148,k149,k151,k152]
 refine(real14_tells H.chaselaw14_r i152.1.wf 1).use fun q153 e153=> ?_
 have i153:=i152.call e153
 have k153:=i153.look
 simp only at k153
 simp (disch:=omega) [go_sem,reI,wanted,B.zOb,↓PO_iaddr,gA,gN,gM,gE,gn,l0,m0,l1,m1,l2,m2,l3,m3,l4,m4,l5,m5,l6,m6,l7,m7,k149,k151,k152,k153]
 have i154:=i153.new (q100.nx+17) (.cells 451 false (obsA [obInt 1,obReal 1])) (show NB≤_ by omega) (by omega) (by omega)
 have t45:=fails14_tells H.chaselaw14_fails i154.1.wf (RdO.made (m:=q100.nx+17) (ty:=451) (l:=[obInt 1,obReal 1]) (by simp[hget_cons]) rfl) (hB.ext i154.1 wB) (by simp) (by decide) (strH_L _) hS (hp0.ext i154.1 wB) (hb0.ext i154.1 wB) [98,105,116,115,104,105,102,116] 22 (by decide)
 rw[kw45]at t45
 refine(t45).use fun q155 e155=> ?_
 have i155:=i154.call e155
 have k155:=i155.look
 simp only at k155
 simp (disch:=omega) [go_sem,reI,wanted,B.zOb,↓PO_iaddr,gA,gN,gM,gE,gn,l0,m0,l1,m1,l2,m2,l3,m3,l4,m4,l5,m5,l6,m6,l7,m7,k151,k152,k153,k155]
 have Ef:=i155.1
 have nf:NB≤q155.nx:=Ef.nx
 have hz100:reps [AV.int IntKind.i64 0,AV.bool false,AV.int IntKind.i64 0,AV.str [],AV.int IntKind.i64 0,AV.int IntKind.i64 0,AV.int IntKind.i64 0] 100=obsA zObs:=by kernel_rfl
 have z1:=Ef.consN (o:= .cells 451 false (obsA (zObs))) (Nat.lt_succ_self _)
 have r1:RdO ((q155.nx,AObj.cells 451 false (obsA (zObs)))::q155.h) (.slice q155.nx 0 100 (.known 100)) zObs:=RdO.made (m:=q155.nx) (ty:=451) (by simp[hget_cons]) zObs_len.symm
 have z2:=z1.consN (o:= .cells 457 true (.slice q155.nx 0 100 (.known 100):: .nilslice:: .nilslice::zRest)) (Nat.lt_succ_self _)
 have x12:Ext ⟨(q155.nx,AObj.cells 451 false (obsA (zObs)))::q155.h,q155.nx+1⟩ ⟨(q155.nx+1,AObj.cells 457 true (.slice q155.nx 0 100 (.known 100):: .nilslice:: .nilslice::zRest))::(q155.nx,AObj.cells 451 false (obsA (zObs)))::q155.h,q155.nx+1+1⟩:=(Ext.refl z1.wf).consN (Nat.lt_succ_self _)
 have r2:=r1.ext x12 z1.wf
 have hov:(doR zObs [] [116,114,117,101]).1=21:=by kernel_rfl
 obtain⟨X,hX⟩:∃X,X=AV.slice q155.nx 0 100 (.known 100):: .nilslice:: .nilslice::zRest:=⟨_,rfl⟩
 have zs1:B.z457.set 0 (.slice q155.nx 0 100 (.known 100))=X:=by rw[hX];rfl
 have hX1:X.length=67:=by rw[hX];rfl
 have hX2:X.all AV.sc=true:=by rw[hX];rfl
 have hX3:X.take 67=X:=take_all hX1
 have hX4:splice B.z457 0 X=X:=splice_len (by rw[hX1,zSt_len])
 have hdo:=do_res H.logic_Do z2.wf zRest_ok r2 (HpR.nil _) (by rw[zObs_len];decide) ⟨by decide,fun c hc=>by cases hc⟩ (hp0.ext z2 wB) (hb0.ext z2 wB) [116,114,117,101]
 rw[←hX]at hdo z2 x12 r2
 simp (disch:=omega) [go_sem,hz100,zSt_len,zs1,hX1,hX2,hX3,hX4]
 refine hdo.mono ?_
 rintro w p1 ⟨xp,ha⟩
 rcases ha with ⟨h1,rfl⟩ | ⟨h1,_⟩
 case inr=>rw[hov]at h1;cases h1
 rw[hov,←hX]
 have kp:=xp.keep
 have np:=xp.nx
 simp only at kp np
 have z3:=(z2.trans xp).consN (o:= .cells 457 true X) (Nat.lt_succ_self _)
 have dp:¬p1.nx=q155.nx+1:=by omega
 simp (disch:=omega) [go_sem,kp,dp,hX1,hX2,hX3,hX4,zSt_len]
 have r3:=r1.ext ((x12.trans xp).consN (o:= .cells 457 true X) (Nat.lt_succ_self _)) z1.wf
 have ts:=sameState14 H.chaseref11_SameState z3.wf r3 r3 (HpR.nil _) (HpR.nil _) (by rw[zObs_len];decide) (by decide) (fun c hc=>by cases hc)
 rw[←hX,decide_eq_true (rfl:zObs=zObs),decide_eq_true (rfl:([]:List Ce)=[])]at ts
 refine ts.use fun p2 xq=> ?_
 have kq:=xq.keep
 have nq:=xq.nx
 simp only at kq nq
 have z4:=z3.trans xq
 have dm:¬p1.nx=nM:=by omega
 have dm1:¬q155.nx+1=nM:=by omega
 have dm2:¬q155.nx=nM:=by omega
 have da:¬p1.nx=nA:=by omega
 have da1:¬q155.nx+1=nA:=by omega
 have da2:¬q155.nx=nA:=by omega
 simp (disch:=omega) [go_sem,kq,kp,k155,gM,gA,dm,dm1,dm2,da,da1,da2]
 have tt:=objText_tells H.logic_Text z4.wf (hp0.ext z4 wB) (hB.ext z4 wB) knM
 rw[show textE (strH knS) knM=[45,45,110,111,115,116,114,105,110,103,118,97,108,45,45]by kernel_rfl]at tt
 refine tt.use fun p3 xr=> ?_
 have kr:=xr.keep
 have nr:=xr.nx
 have z5:=z4.trans xr
 simp (disch:=omega) [go_sem,kr,kq,kp,k155,gM,gA,dm,dm1,dm2,da,da1,da2,seq8_dec]
 have tu:=objText_tells H.logic_Text z5.wf (hp0.ext z5 wB) (HpR.nil _) (obS 0 [97])
 rw[show textE [] (obS 0 [97])=[]by kernel_rfl]at tu
 refine tu.use fun p4 xs=> ?_
 simp (disch:=omega) [go_sem,show seq8 [] []=true from rfl]
 exact(yB.trans (z5.trans xs)).dropLoc
end Go.Ev

/- A table of the library beside what the arguments named. -/
namespace Go.Ev
open Go Go.RowKit Go.ChangeShapes Go.WideShapes Go.Deep Go.Joins
theorem sr_add {X:Cx} {w:World} {N:Nu} {st:St} {o:AObj} {a:Addr} (h:SR chkD X N st w) (how:∀b,¬Own N st.h b) (ho:o.own=false) (hobj:ObjR chkD X (N.add st.nx a 0) w st.nx o):
  SR chkD X (N.add st.nx a 0) ⟨(st.nx,o)::st.h,st.nx+1⟩ w∧(∀b,¬Own (N.add st.nx a 0) ((st.nx,o)::st.h) b)∧N.Le (N.add st.nx a 0):=by
 have hle:N.Le (N.add st.nx a 0):=Nu.le_add (h.fresh _ (Nat.le_refl _))
 have hold:∀m,m≠st.nx→(N.add st.nx a 0).ρ m=N.ρ m:=fun m hm=>by simp[Nu.add,hm]
 have hown:∀b,¬Own (N.add st.nx a 0) ((st.nx,o)::st.h) b:=by
  rintro b ⟨n,p,x,h1,h2,h3,h4⟩
  by_cases e:n=st.nx
  ·subst e
   rw[hget_cons,if_pos rfl]at h1
   injection h1 with h1
   subst h1
   rw[ho]at h2
   cases h2
  ·rw[hget_cons,if_neg (fun x=>e x.symm)]at h1
   exact how b ⟨n,p,x,h1,h2,by rw[←hold n e];exact h3,h4⟩
 refine⟨⟨⟨?_,?_⟩,?_⟩,hown,hle⟩
 ·intro n p h1
  by_cases e:n=st.nx
  ·subst e
   rw[hget_cons,if_pos rfl]at h1
   injection h1 with h1
   subst h1
   exact hobj
  ·rw[hget_cons,if_neg (fun x=>e x.symm)]at h1
   exact ObjR.keep hle (Nat.le_refl _) (fun _ _=>rfl) (h.hr.objs n p h1)
 ·intro n m o1 p1 x y h1 h2 h3 h4 h5 h6
  exact absurd ⟨n,o1,x,h1,h3,h4,rfl⟩ (hown x.block)
 ·intro n hn
  rw[hold n (by simp only at hn;omega)]
  exact h.fresh n (by simp only at hn;omega)
theorem objR_pow {X:Cx} {w:World} {N:Nu} {n k:Nat} {name:String} (hname:X.P.globalNamed name=some (X.γ k)) (h:Lib.TabIs X.P w name .u64 Lib.pow10Tab):ObjR chkD X (N.add n ⟨X.γ k,0,none⟩ 0) w n (.glob k powAV):=by
 unfold Lib.TabIs World.var? at h
 rw[hname]at h
 simp only[Option.bind_some]at h
 split at h
 ·rename_i cs t fz hc
  refine⟨cs,t,fz,by simp[Nu.add],hc,?_⟩
  injection h with h
  rw[h]
  exact vrs_ints _
 ·cases h
theorem pow_glob (n m:Nat) (h:Heap):Pow ⟨(n,.glob B.gPow10 powAV)::h,m⟩:=⟨n,powAV,by simp[hget],by simp[powAV,B.av64]⟩
theorem sr_pow {X:Cx} {w:World} {N:Nu} {st:St} {k:Nat} {name:String} (hname:X.P.globalNamed name=some (X.γ k)) (h:Lib.TabIs X.P w name .u64 Lib.pow10Tab) (hr:SR chkD X N st w) (how:∀b,¬Own N st.h b):
  ∃N':Nu,SR chkD X N' ⟨(st.nx,.glob k powAV)::st.h,st.nx+1⟩ w∧(∀b,¬Own N' ((st.nx,.glob k powAV)::st.h) b)∧N.Le N':=
 ⟨_,sr_add hr how rfl (objR_pow hname h)⟩
theorem wf_add {st:St} {o:AObj} (h:st.Wf) (hp:0<st.nx):St.Wf ⟨(st.nx,o)::st.h,st.nx+1⟩:=(Ext.new h o).wf
end Go.Ev

/- Tables of the library among the objects. -/
namespace Go.Ev
open Go Go.RowKit Go.ChangeShapes Go.WideShapes Go.Deep Go.Joins
def tabAV (kd:IntKind) (zs:List Int):List AV:=zs.map fun z=> .int kd z
theorem vrs_intsK {X:Cx} {N:Nu} (kd:IntKind):∀zs:List Int,VRs X N (zs.map fun z=> .int kd z) (zs.map fun z=>Value.int kd z)
 | []=>rfl
 | z::zs=>⟨_,_,rfl,rfl,vrs_intsK kd zs⟩
theorem objR_tab {X:Cx} {w:World} {N:Nu} {n k:Nat} {kd:IntKind} {zs:List Int} {name:String} (hname:X.P.globalNamed name=some (X.γ k)) (h:Lib.TabIs X.P w name kd zs):ObjR chkD X (N.add n ⟨X.γ k,0,none⟩ 0) w n (.glob k (tabAV kd zs)):=by
 unfold Lib.TabIs World.var? at h
 rw[hname]at h
 simp only[Option.bind_some]at h
 split at h
 ·rename_i cs t fz hc
  refine⟨cs,t,fz,by simp[Nu.add],hc,?_⟩
  injection h with h
  rw[h]
  exact vrs_intsK kd _
 ·cases h
theorem sr_tab {X:Cx} {w:World} {N:Nu} {st:St} {k:Nat} {kd:IntKind} {zs:List Int} {name:String} (hname:X.P.globalNamed name=some (X.γ k)) (h:Lib.TabIs X.P w name kd zs) (hr:SR chkD X N st w) (how:∀b,¬Own N st.h b):
  ∃N':Nu,SR chkD X N' ⟨(st.nx,.glob k (tabAV kd zs))::st.h,st.nx+1⟩ w∧(∀b,¬Own N' ((st.nx,.glob k (tabAV kd zs))::st.h) b)∧N.Le N':=
 ⟨_,sr_add hr how rfl (objR_tab hname h)⟩
def deB64z:List Int:=[0,1,56,2,57,49,28,3,61,58,42,50,38,29,17,4,62,47,59,36,45,43,51,22,53,39,33,30,24,18,12,5,63,55,48,27,60,41,37,16,46,35,44,21,52,32,23,11,54,26,40,15,34,20,31,10,25,14,19,9,13,8,7,6]
theorem tab2_of_laid {P:Program} {W:World} {x:String×DataW Unit} {rest:List (String×DataW Unit)} {name:String} {kd:IntKind} {zs:List Int} {g:Nat} {t e:TypeId} {n:Nat}
  (hg:P.globalNamed name=some g) (hty:(P.globals[g]?).map (·.type)=some t) (ht:P.underlying t=some (.array n e)) (he:P.underlying e=some (.int kd)) (hce:P.cellsOf e=1) (hct:P.cellsOf t=n)
  (h:laidMet P (x::(name,Lib.tabData kd zs)::rest) W):Lib.TabIs P W name kd zs:=Lib.tabIs_of_head hg hty ht he hce hct (laidMet.tail h)
theorem tab3_of_laid {P:Program} {W:World} {x y:String×DataW Unit} {rest:List (String×DataW Unit)} {name:String} {kd:IntKind} {zs:List Int} {g:Nat} {t e:TypeId} {n:Nat}
  (hg:P.globalNamed name=some g) (hty:(P.globals[g]?).map (·.type)=some t) (ht:P.underlying t=some (.array n e)) (he:P.underlying e=some (.int kd)) (hce:P.cellsOf e=1) (hct:P.cellsOf t=n)
  (h:laidMet P (x::y::(name,Lib.tabData kd zs)::rest) W):Lib.TabIs P W name kd zs:=Lib.tabIs_of_head hg hty ht he hce hct (laidMet.tail (laidMet.tail h))
def st14:St:=⟨[(7,.glob B.gPow10 powAV),(6,.glob 6 deB64)],8⟩
theorem st14_wf:st14.Wf:=wf_add (st:=⟨[(6,.glob 6 deB64)],7⟩) (wf_add (st:=⟨[],6⟩) (stNone_wf 6) (by decide)) (by decide)
theorem st14_pow:Pow st14:=pow_glob _ _ _
theorem st14_bru:Bru st14:=rfl
theorem sr14 {X:Cx} {w:World} (h1:X.P.globalNamed "math/bits.deBruijn64tab" =some (X.γ 6)) (h2:X.P.globalNamed "internal/strconv.uint64pow10" =some (X.γ B.gPow10)) (t1:Lib.TabIs X.P w "math/bits.deBruijn64tab" .u8 deB64z) (t2:Lib.TabIs X.P w "internal/strconv.uint64pow10" .u64 Lib.pow10Tab):
  ∃N:Nu,SR chkD X N st14 w∧∀b,¬Own N st14.h b:=by
 obtain⟨N1,r1,o1,_⟩:=sr_tab h1 t1 (sr_none 6 w) own_none
 obtain⟨N2,r2,o2,_⟩:=sr_pow h2 t2 r1 o1
 exact⟨N2,r2,o2⟩
end Go.Ev

/- An object among the arguments, opened. -/
namespace Go.Ev
open Go Go.RowKit Go.ChangeShapes Go.WideShapes Go.Deep Go.Joins
end Go.Ev

/- A closed call run by the kernel: what it answers, and that what was there stays. -/
namespace Go.Ev
open Go
variable {T : Tab}
end Go.Ev

/- The functions that the law LogicKnown reaches: their numbers, and the check of each body, printed by a program of this work. -/
namespace Go.Ev.LogicKnown
open Go Go.Proofs Go.Ev
def phiT:NT:=(.node (.node (.node (.node (.node (.node (.node (.node .nil 53 207 .nil) 63 140 .nil) 75 169 (.node .nil 76 170 .nil)) 77 171 (.node (.node (.node .nil 84 241 .nil)
 91 150 .nil) 92 151 (.node .nil 94 194 .nil))) 95 195 (.node (.node (.node (.node .nil 96 196 .nil) 97 197 .nil) 98 198 (.node .nil 99 199 .nil)) 100 200 (.node (.node .nil 109 175
 .nil) 110 191 (.node .nil 112 216 .nil)))) 113 219 (.node (.node (.node (.node (.node .nil 114 220 .nil) 115 221 .nil) 116 222 (.node .nil 118 201 .nil)) 119 228 (.node (.node (.node
 .nil 120 235 .nil) 121 236 .nil) 122 229 (.node .nil 123 215 .nil))) 132 82 (.node (.node (.node (.node .nil 133 125 .nil) 136 164 .nil) 137 163 (.node .nil 138 165 .nil)) 139 192 (.node
 (.node .nil 140 217 .nil) 141 218 (.node .nil 142 230 .nil))))) 143 231 (.node (.node (.node (.node (.node (.node .nil 144 232 .nil) 145 233 .nil) 146 234 (.node .nil 147 242 .nil))
 148 239 (.node (.node (.node .nil 149 238 .nil) 296 9 .nil) 300 11 (.node .nil 301 23 .nil))) 302 28 (.node (.node (.node (.node .nil 304 29 .nil) 305 30 .nil) 306 22 (.node .nil 307
 24 .nil)) 308 14 (.node (.node .nil 312 31 .nil) 313 32 (.node .nil 314 33 .nil)))) 315 16 (.node (.node (.node (.node (.node .nil 316 21 .nil) 325 61 .nil) 326 89 (.node .nil 327 90
 .nil)) 328 91 (.node (.node (.node .nil 329 92 .nil) 330 36 .nil) 331 37 (.node .nil 332 38 .nil))) 333 39 (.node (.node (.node (.node .nil 334 40 .nil) 335 41 .nil) 336 42 (.node .nil
 337 43 .nil)) 338 44 (.node (.node .nil 339 45 .nil) 340 46 (.node .nil 341 47 .nil)))))) 342 48 (.node (.node (.node (.node (.node (.node (.node .nil 343 50 .nil) 344 49 .nil) 345
 51 (.node .nil 346 52 .nil)) 347 53 (.node (.node (.node .nil 348 54 .nil) 349 55 .nil) 350 56 (.node .nil 351 57 .nil))) 352 58 (.node (.node (.node (.node .nil 353 59 .nil) 357 86
 .nil) 358 93 (.node .nil 359 70 .nil)) 360 69 (.node (.node .nil 361 71 .nil) 362 78 (.node .nil 363 79 .nil)))) 364 81 (.node (.node (.node (.node (.node .nil 365 83 .nil) 366 85 .nil)
 379 131 (.node .nil 380 132 .nil)) 381 133 (.node (.node (.node .nil 382 94 .nil) 383 95 .nil) 384 96 (.node .nil 385 97 .nil))) 386 98 (.node (.node (.node (.node .nil 387 99 .nil)
 388 100 .nil) 389 101 (.node .nil 390 102 .nil)) 391 104 (.node (.node .nil 392 105 .nil) 393 106 (.node .nil 394 107 .nil))))) 395 109 (.node (.node (.node (.node (.node (.node .nil
 396 108 .nil) 400 126 .nil) 401 127 (.node .nil 402 120 .nil)) 403 80 (.node (.node (.node .nil 404 84 .nil) 417 167 .nil) 418 134 (.node .nil 419 136 .nil))) 420 137 (.node (.node
 (.node (.node .nil 421 139 .nil) 422 138 .nil) 423 103 (.node .nil 424 141 .nil)) 425 142 (.node (.node .nil 426 143 .nil) 427 144 (.node .nil 428 145 .nil)))) 429 146 (.node (.node
 (.node (.node (.node .nil 430 147 .nil) 431 154 .nil) 432 166 (.node .nil 439 172 .nil)) 440 173 (.node (.node .nil 441 174 .nil) 442 182 (.node .nil 443 183 .nil))) 444 184 (.node
 (.node (.node (.node .nil 445 185 .nil) 446 193 .nil) 447 206 (.node .nil 448 208 .nil)) 449 209 (.node (.node .nil 450 210 .nil) 451 226 (.node .nil 452 227 .nil)))))))
def tauT:NT:=(.node (.node (.node (.node (.node (.node (.node (.node (.node .nil 0 0 .nil) 1 1 .nil) 2 2 (.node (.node .nil 3 3 .nil) 4 4 .nil)) 5 5 (.node (.node (.node .nil 6
 6 .nil) 7 7 .nil) 8 8 (.node .nil 9 9 .nil))) 10 10 (.node (.node (.node (.node .nil 11 11 .nil) 12 12 .nil) 13 13 (.node .nil 14 14 .nil)) 15 15 (.node (.node (.node .nil 16 16 .nil)
 17 17 .nil) 18 18 (.node .nil 19 19 .nil)))) 20 20 (.node (.node (.node (.node (.node .nil 21 21 .nil) 25 26 .nil) 27 193 (.node .nil 28 207 .nil)) 30 58 (.node (.node (.node .nil 31
 86 .nil) 35 23 .nil) 37 242 (.node .nil 43 211 .nil))) 44 75 (.node (.node (.node (.node .nil 45 43 .nil) 48 138 .nil) 62 74 (.node .nil 79 73 .nil)) 82 198 (.node (.node (.node .nil
 83 199 .nil) 84 200 .nil) 85 201 (.node .nil 86 202 .nil))))) 87 203 (.node (.node (.node (.node (.node (.node .nil 88 204 .nil) 89 205 .nil) 102 152 (.node (.node .nil 103 299 .nil)
 105 159 .nil)) 108 226 (.node (.node (.node .nil 110 98 .nil) 112 261 .nil) 113 244 (.node .nil 114 251 .nil))) 115 252 (.node (.node (.node (.node .nil 116 253 .nil) 117 284 .nil)
 118 233 (.node .nil 120 102 .nil)) 121 301 (.node (.node (.node .nil 122 302 .nil) 123 303 .nil) 124 304 (.node .nil 125 305 .nil)))) 126 306 (.node (.node (.node (.node (.node .nil
 127 307 .nil) 128 308 .nil) 129 309 (.node .nil 130 310 .nil)) 131 311 (.node (.node (.node .nil 132 312 .nil) 133 185 .nil) 134 186 (.node .nil 135 187 .nil))) 136 188 (.node (.node
 (.node (.node .nil 137 243 .nil) 141 157 .nil) 149 220 (.node .nil 150 221 .nil)) 151 222 (.node (.node (.node .nil 152 237 .nil) 153 238 .nil) 154 239 (.node .nil 155 240 .nil))))))
 156 148 (.node (.node (.node (.node (.node (.node (.node .nil 157 241 .nil) 158 250 .nil) 159 297 (.node (.node .nil 161 268 .nil) 170 206 .nil)) 172 245 (.node (.node (.node .nil 173
 246 .nil) 174 247 .nil) 175 248 (.node .nil 176 249 .nil))) 177 262 (.node (.node (.node (.node .nil 178 263 .nil) 180 264 .nil) 181 265 (.node .nil 182 266 .nil)) 183 147 (.node (.node
 (.node .nil 184 267 .nil) 185 269 .nil) 186 270 (.node .nil 187 271 .nil)))) 188 272 (.node (.node (.node (.node (.node .nil 189 273 .nil) 190 274 .nil) 191 275 (.node .nil 192 276
 .nil)) 195 285 (.node (.node (.node .nil 196 286 .nil) 197 287 .nil) 198 288 (.node .nil 199 289 .nil))) 200 290 (.node (.node (.node (.node .nil 201 90 .nil) 202 298 .nil) 203 300
 (.node .nil 213 56 .nil)) 214 129 (.node (.node (.node .nil 215 167 .nil) 216 208 .nil) 217 209 (.node .nil 218 214 .nil))))) 219 215 (.node (.node (.node (.node (.node (.node .nil
 220 216 .nil) 221 217 .nil) 222 218 (.node .nil 223 227 .nil)) 224 228 (.node (.node (.node .nil 225 229 .nil) 226 230 .nil) 227 231 (.node .nil 228 213 .nil))) 229 254 (.node (.node
 (.node (.node .nil 230 255 .nil) 231 256 .nil) 232 257 (.node .nil 233 232 .nil)) 234 234 (.node (.node (.node .nil 235 235 .nil) 236 236 .nil) 237 277 (.node .nil 238 278 .nil))))
 239 279 (.node (.node (.node (.node (.node .nil 240 280 .nil) 241 281 .nil) 242 282 (.node .nil 243 283 .nil)) 244 258 (.node (.node (.node .nil 245 259 .nil) 246 260 .nil) 247 291
 (.node .nil 248 292 .nil))) 249 293 (.node (.node (.node (.node .nil 250 294 .nil) 251 295 .nil) 252 296 (.node .nil 287 118 .nil)) 372 166 (.node (.node (.node .nil 426 146 .nil) 428
 22 .nil) 429 24 (.node .nil 430 25 .nil))))))) 431 27 (.node (.node (.node (.node (.node (.node (.node (.node .nil 432 28 .nil) 433 29 .nil) 434 30 (.node (.node .nil 435 31 .nil) 436
 32 .nil)) 437 33 (.node (.node (.node .nil 438 34 .nil) 439 35 .nil) 440 36 (.node .nil 441 37 .nil))) 442 38 (.node (.node (.node (.node .nil 443 39 .nil) 444 40 .nil) 445 41 (.node
 .nil 446 42 .nil)) 447 44 (.node (.node (.node .nil 448 45 .nil) 449 46 .nil) 450 47 (.node .nil 451 48 .nil)))) 452 49 (.node (.node (.node (.node (.node .nil 453 50 .nil) 454 51 .nil)
 455 52 (.node .nil 456 53 .nil)) 457 54 (.node (.node (.node .nil 458 55 .nil) 459 57 .nil) 460 59 (.node .nil 461 60 .nil))) 462 61 (.node (.node (.node (.node .nil 463 62 .nil) 464
 63 .nil) 465 64 (.node .nil 466 65 .nil)) 467 66 (.node (.node (.node .nil 468 67 .nil) 469 68 .nil) 470 69 (.node .nil 471 70 .nil))))) 472 71 (.node (.node (.node (.node (.node (.node
 .nil 473 72 .nil) 474 76 .nil) 475 77 (.node (.node .nil 476 78 .nil) 477 79 .nil)) 478 80 (.node (.node (.node .nil 479 81 .nil) 480 82 .nil) 481 83 (.node .nil 482 84 .nil))) 483
 85 (.node (.node (.node (.node .nil 484 87 .nil) 485 88 .nil) 486 89 (.node .nil 487 91 .nil)) 488 92 (.node (.node (.node .nil 489 93 .nil) 490 94 .nil) 491 95 (.node .nil 492 96 .nil))))
 493 97 (.node (.node (.node (.node (.node .nil 494 99 .nil) 495 100 .nil) 496 101 (.node .nil 497 103 .nil)) 498 104 (.node (.node (.node .nil 499 105 .nil) 500 106 .nil) 501 107 (.node
 .nil 502 108 .nil))) 503 109 (.node (.node (.node (.node .nil 504 110 .nil) 505 111 .nil) 506 112 (.node .nil 507 113 .nil)) 508 114 (.node (.node (.node .nil 509 115 .nil) 510 116
 .nil) 511 117 (.node .nil 512 119 .nil)))))) 513 120 (.node (.node (.node (.node (.node (.node (.node .nil 514 121 .nil) 515 122 .nil) 516 123 (.node (.node .nil 517 124 .nil) 518 125
 .nil)) 519 126 (.node (.node (.node .nil 520 127 .nil) 521 128 .nil) 522 130 (.node .nil 523 131 .nil))) 524 132 (.node (.node (.node (.node .nil 525 133 .nil) 526 134 .nil) 527 135
 (.node .nil 528 136 .nil)) 529 137 (.node (.node (.node .nil 530 139 .nil) 531 140 .nil) 532 141 (.node .nil 533 142 .nil)))) 534 143 (.node (.node (.node (.node (.node .nil 535 144
 .nil) 536 145 .nil) 537 149 (.node .nil 538 150 .nil)) 539 151 (.node (.node (.node .nil 540 153 .nil) 541 154 .nil) 542 155 (.node .nil 543 156 .nil))) 544 158 (.node (.node (.node
 (.node .nil 545 160 .nil) 546 161 .nil) 547 162 (.node .nil 548 163 .nil)) 549 164 (.node (.node (.node .nil 550 165 .nil) 551 168 .nil) 552 169 (.node .nil 553 170 .nil))))) 554 171
 (.node (.node (.node (.node (.node (.node .nil 555 172 .nil) 556 173 .nil) 557 174 (.node .nil 558 175 .nil)) 559 176 (.node (.node (.node .nil 560 177 .nil) 561 178 .nil) 562 179 (.node
 .nil 563 180 .nil))) 564 181 (.node (.node (.node (.node .nil 565 182 .nil) 566 183 .nil) 567 184 (.node .nil 568 189 .nil)) 569 190 (.node (.node (.node .nil 570 191 .nil) 571 192
 .nil) 572 194 (.node .nil 573 195 .nil)))) 574 196 (.node (.node (.node (.node (.node .nil 575 197 .nil) 576 210 .nil) 577 212 (.node .nil 578 219 .nil)) 579 223 (.node (.node (.node
 .nil 580 224 .nil) 581 225 .nil) 582 313 (.node .nil 583 314 .nil))) 584 315 (.node (.node (.node (.node .nil 585 316 .nil) 586 317 .nil) 587 318 (.node .nil 588 319 .nil)) 589 320
 (.node (.node (.node .nil 590 321 .nil) 591 322 .nil) 592 323 (.node .nil 593 324 .nil))))))))
def gamT:NT:=(.node (.node (.node (.node .nil 0 1 .nil) 1 2 .nil) 2 4 (.node .nil 3 5 .nil)) 4 3 (.node (.node .nil 5 6 .nil) 6 7 (.node .nil 8 0 .nil)))
noncomputable def cx:Cx:=⟨Tryz.prog,phiT.get,tauT.get,gamT.get⟩
theorem k_math_bits_Len64:FnOK cx 53 B.math_bits_Len64:=fnOK_of (by kernel_rfl) Tryz.func207 (by kernel_rfl)
theorem k_lex_Number:FnOK cx 63 B.lex_Number:=fnOK_of (by kernel_rfl) Tryz.func140 (by kernel_rfl)
theorem k_lex_numeral_whole:FnOK cx 75 B.lex_numeral_whole:=fnOK_of (by kernel_rfl) Tryz.func169 (by kernel_rfl)
theorem k_lex_numeral_radix:FnOK cx 76 B.lex_numeral_radix:=fnOK_of (by kernel_rfl) Tryz.func170 (by kernel_rfl)
theorem k_lex_numeral_decimal:FnOK cx 77 B.lex_numeral_decimal:=fnOK_of (by kernel_rfl) Tryz.func171 (by kernel_rfl)
theorem k_strings_Builder_WriteByte:FnOK cx 91 B.strings_Builder_WriteByte:=fnOK_of (by kernel_rfl) Tryz.func150 (by kernel_rfl)
theorem k_strings_Builder_String:FnOK cx 92 B.strings_Builder_String:=fnOK_of (by kernel_rfl) Tryz.func151 (by kernel_rfl)
theorem k_strings_HasPrefix:FnOK cx 94 B.strings_HasPrefix:=fnOK_of (by kernel_rfl) Tryz.func194 (by kernel_rfl)
theorem k_lex_count:FnOK cx 95 B.lex_count:=fnOK_of (by kernel_rfl) Tryz.func195 (by kernel_rfl)
theorem k_lex_numeral_answer:FnOK cx 96 B.lex_numeral_answer:=fnOK_of (by kernel_rfl) Tryz.func196 (by kernel_rfl)
theorem k_strings_Cut:FnOK cx 97 B.strings_Cut:=fnOK_of (by kernel_rfl) Tryz.func197 (by kernel_rfl)
theorem k_strings_ContainsAny:FnOK cx 98 B.strings_ContainsAny:=fnOK_of (by kernel_rfl) Tryz.func198 (by kernel_rfl)
theorem k_lex_pattern:FnOK cx 99 B.lex_pattern:=fnOK_of (by kernel_rfl) Tryz.func199 (by kernel_rfl)
theorem k_real_Parse:FnOK cx 100 B.real_Parse:=fnOK_of (by kernel_rfl) Tryz.func200 (by kernel_rfl)
theorem k_strings_Builder_copyCheck:FnOK cx 109 B.strings_Builder_copyCheck:=fnOK_of (by kernel_rfl) Tryz.func175 (by kernel_rfl)
theorem k_real_Is:FnOK cx 110 B.real_Is:=fnOK_of (by kernel_rfl) Tryz.func191 (by kernel_rfl)
theorem k_lex_digits:FnOK cx 112 B.lex_digits:=fnOK_of (by kernel_rfl) Tryz.func216 (by kernel_rfl)
theorem k_real_scanner_decimal:FnOK cx 113 B.real_scanner_decimal:=fnOK_of (by kernel_rfl) Tryz.func219 (by kernel_rfl)
theorem k_real_front:FnOK cx 114 B.real_front:=fnOK_of (by kernel_rfl) Tryz.func220 (by kernel_rfl)
theorem k_real_fraction:FnOK cx 115 B.real_fraction:=fnOK_of (by kernel_rfl) Tryz.func221 (by kernel_rfl)
theorem k_real_double:FnOK cx 116 B.real_double:=fnOK_of (by kernel_rfl) Tryz.func222 (by kernel_rfl)
theorem k_lex_digits_1:FnOK cx 119 B.lex_digits_1:=fnOK_of (by kernel_rfl) Tryz.func228 (by kernel_rfl)
theorem k_real_scanner_one:FnOK cx 120 B.real_scanner_one:=fnOK_of (by kernel_rfl) Tryz.func235 (by kernel_rfl)
theorem k_real_scanner_digits:FnOK cx 121 B.real_scanner_digits:=fnOK_of (by kernel_rfl) Tryz.func236 (by kernel_rfl)
theorem k_lex_value:FnOK cx 122 B.lex_value:=fnOK_of (by kernel_rfl) Tryz.func229 (by kernel_rfl)
theorem k_stringslite_HasPrefix:FnOK cx 123 B.stringslite_HasPrefix:=fnOK_of (by kernel_rfl) Tryz.func215 (by kernel_rfl)
theorem k_real_Print:FnOK cx 133 B.real_Print:=fnOK_of (by kernel_rfl) Tryz.func125 (by kernel_rfl)
theorem k_real_Print_1:FnOK cx 136 B.real_Print_1:=fnOK_of (by kernel_rfl) Tryz.func164 (by kernel_rfl)
theorem k_real_result_string:FnOK cx 137 B.real_result_string:=fnOK_of (by kernel_rfl) Tryz.func163 (by kernel_rfl)
theorem k_real_whole:FnOK cx 138 B.real_whole:=fnOK_of (by kernel_rfl) Tryz.func165 (by kernel_rfl)
theorem k_real_whole_1:FnOK cx 139 B.real_whole_1:=fnOK_of (by kernel_rfl) Tryz.func192 (by kernel_rfl)
theorem k_stringslite_Cut:FnOK cx 140 B.stringslite_Cut:=fnOK_of (by kernel_rfl) Tryz.func217 (by kernel_rfl)
theorem k_strings_IndexAny:FnOK cx 141 B.strings_IndexAny:=fnOK_of (by kernel_rfl) Tryz.func218 (by kernel_rfl)
theorem k_strings_IndexRune:FnOK cx 143 B.strings_IndexRune:=fnOK_of (by kernel_rfl) Tryz.func231 (by kernel_rfl)
theorem k_strings_shouldUseASCIISet:FnOK cx 144 B.strings_shouldUseASCIISet:=fnOK_of (by kernel_rfl) Tryz.func232 (by kernel_rfl)
theorem k_strings_makeASCIISet:FnOK cx 145 B.strings_makeASCIISet:=fnOK_of (by kernel_rfl) Tryz.func233 (by kernel_rfl)
theorem k_strings_asciiSet_contains:FnOK cx 146 B.strings_asciiSet_contains:=fnOK_of (by kernel_rfl) Tryz.func234 (by kernel_rfl)
theorem k_unicode_utf8_ValidRune:FnOK cx 147 B.unicode_utf8_ValidRune:=fnOK_of (by kernel_rfl) Tryz.func242 (by kernel_rfl)
theorem k_bytealg_Cutover:FnOK cx 148 B.bytealg_Cutover:=fnOK_of (by kernel_rfl) Tryz.func239 (by kernel_rfl)
theorem k_chaselaw14_LogicKnown:FnOK cx 296 B.chaselaw14_LogicKnown:=fnOK_of (by kernel_rfl) Tryz.func9 (by kernel_rfl)
theorem k_chaselaw14_wakes:FnOK cx 300 B.chaselaw14_wakes:=fnOK_of (by kernel_rfl) Tryz.func11 (by kernel_rfl)
theorem k_chaselaw14_i:FnOK cx 301 B.chaselaw14_i:=fnOK_of (by kernel_rfl) Tryz.func23 (by kernel_rfl)
theorem k_chaselaw14_b:FnOK cx 302 B.chaselaw14_b:=fnOK_of (by kernel_rfl) Tryz.func28 (by kernel_rfl)
theorem k_heap_Fits:FnOK cx 304 B.heap_Fits:=fnOK_of (by kernel_rfl) Tryz.func29 (by kernel_rfl)
theorem k_object_KindName:FnOK cx 305 B.object_KindName:=fnOK_of (by kernel_rfl) Tryz.func30 (by kernel_rfl)
theorem k_chaselaw14_strings:FnOK cx 306 B.chaselaw14_strings:=fnOK_of (by kernel_rfl) Tryz.func22 (by kernel_rfl)
theorem k_chaselaw14_r:FnOK cx 307 B.chaselaw14_r:=fnOK_of (by kernel_rfl) Tryz.func24 (by kernel_rfl)
theorem k_logic_Do:FnOK cx 308 B.logic_Do:=fnOK_of (by kernel_rfl) Tryz.func14 (by kernel_rfl)
theorem k_chaselaw14_gives:FnOK cx 312 B.chaselaw14_gives:=fnOK_of (by kernel_rfl) Tryz.func31 (by kernel_rfl)
theorem k_chaselaw14_writes:FnOK cx 313 B.chaselaw14_writes:=fnOK_of (by kernel_rfl) Tryz.func32 (by kernel_rfl)
theorem k_chaselaw14_fails:FnOK cx 314 B.chaselaw14_fails:=fnOK_of (by kernel_rfl) Tryz.func33 (by kernel_rfl)
theorem k_chaseref11_SameState:FnOK cx 315 B.chaseref11_SameState:=fnOK_of (by kernel_rfl) Tryz.func16 (by kernel_rfl)
theorem k_logic_Text:FnOK cx 316 B.logic_Text:=fnOK_of (by kernel_rfl) Tryz.func21 (by kernel_rfl)
theorem k_chaseref10_Bool:FnOK cx 325 B.chaseref10_Bool:=fnOK_of (by kernel_rfl) Tryz.func61 (by kernel_rfl)
theorem k_object_Check:FnOK cx 326 B.object_Check:=fnOK_of (by kernel_rfl) Tryz.func89 (by kernel_rfl)
theorem k_heap_cellKind:FnOK cx 327 B.heap_cellKind:=fnOK_of (by kernel_rfl) Tryz.func90 (by kernel_rfl)
theorem k_heap_length:FnOK cx 328 B.heap_length:=fnOK_of (by kernel_rfl) Tryz.func91 (by kernel_rfl)
theorem k_object_kinds:FnOK cx 329 B.object_kinds:=fnOK_of (by kernel_rfl) Tryz.func92 (by kernel_rfl)
theorem k_logic_Do_1:FnOK cx 330 B.logic_Do_1:=fnOK_of (by kernel_rfl) Tryz.func36 (by kernel_rfl)
theorem k_logic_Do_2:FnOK cx 331 B.logic_Do_2:=fnOK_of (by kernel_rfl) Tryz.func37 (by kernel_rfl)
theorem k_logic_Do_3:FnOK cx 332 B.logic_Do_3:=fnOK_of (by kernel_rfl) Tryz.func38 (by kernel_rfl)
theorem k_logic_Do_4:FnOK cx 333 B.logic_Do_4:=fnOK_of (by kernel_rfl) Tryz.func39 (by kernel_rfl)
theorem k_logic_judge_compare:FnOK cx 334 B.logic_judge_compare:=fnOK_of (by kernel_rfl) Tryz.func40 (by kernel_rfl)
theorem k_logic_Do_5:FnOK cx 335 B.logic_Do_5:=fnOK_of (by kernel_rfl) Tryz.func41 (by kernel_rfl)
theorem k_logic_Do_6:FnOK cx 336 B.logic_Do_6:=fnOK_of (by kernel_rfl) Tryz.func42 (by kernel_rfl)
theorem k_logic_Do_7:FnOK cx 337 B.logic_Do_7:=fnOK_of (by kernel_rfl) Tryz.func43 (by kernel_rfl)
theorem k_logic_judge_bits:FnOK cx 338 B.logic_judge_bits:=fnOK_of (by kernel_rfl) Tryz.func44 (by kernel_rfl)
theorem k_logic_judge_one:FnOK cx 339 B.logic_judge_one:=fnOK_of (by kernel_rfl) Tryz.func45 (by kernel_rfl)
theorem k_logic_judge_same:FnOK cx 340 B.logic_judge_same:=fnOK_of (by kernel_rfl) Tryz.func46 (by kernel_rfl)
theorem k_logic_judge_not:FnOK cx 341 B.logic_judge_not:=fnOK_of (by kernel_rfl) Tryz.func47 (by kernel_rfl)
theorem k_logic_judge_bitshift:FnOK cx 342 B.logic_judge_bitshift:=fnOK_of (by kernel_rfl) Tryz.func48 (by kernel_rfl)
theorem k_object_Bool:FnOK cx 343 B.object_Bool:=fnOK_of (by kernel_rfl) Tryz.func50 (by kernel_rfl)
theorem k_stack_Push:FnOK cx 344 B.stack_Push:=fnOK_of (by kernel_rfl) Tryz.func49 (by kernel_rfl)
theorem k_logic_kindOf:FnOK cx 345 B.logic_kindOf:=fnOK_of (by kernel_rfl) Tryz.func51 (by kernel_rfl)
theorem k_logic_Do_8:FnOK cx 346 B.logic_Do_8:=fnOK_of (by kernel_rfl) Tryz.func52 (by kernel_rfl)
theorem k_logic_executable:FnOK cx 347 B.logic_executable:=fnOK_of (by kernel_rfl) Tryz.func53 (by kernel_rfl)
theorem k_logic_judge_named:FnOK cx 348 B.logic_judge_named:=fnOK_of (by kernel_rfl) Tryz.func54 (by kernel_rfl)
theorem k_logic_converted_api_Obj:FnOK cx 349 B.logic_converted_api_Obj:=fnOK_of (by kernel_rfl) Tryz.func55 (by kernel_rfl)
theorem k_object_ToInt:FnOK cx 350 B.object_ToInt:=fnOK_of (by kernel_rfl) Tryz.func56 (by kernel_rfl)
theorem k_object_ToReal:FnOK cx 351 B.object_ToReal:=fnOK_of (by kernel_rfl) Tryz.func57 (by kernel_rfl)
theorem k_logic_judge_cvs:FnOK cx 352 B.logic_judge_cvs:=fnOK_of (by kernel_rfl) Tryz.func58 (by kernel_rfl)
theorem k_logic_judge_cvrs:FnOK cx 353 B.logic_judge_cvrs:=fnOK_of (by kernel_rfl) Tryz.func59 (by kernel_rfl)
theorem k_heap_Bytes:FnOK cx 357 B.heap_Bytes:=fnOK_of (by kernel_rfl) Tryz.func86 (by kernel_rfl)
theorem k_slices_Equal_api_Obj_api_Obj:FnOK cx 358 B.slices_Equal_api_Obj_api_Obj:=fnOK_of (by kernel_rfl) Tryz.func93 (by kernel_rfl)
theorem k_chaseref11_Same:FnOK cx 359 B.chaseref11_Same:=fnOK_of (by kernel_rfl) Tryz.func70 (by kernel_rfl)
theorem k_chaseref11_sameObjs:FnOK cx 360 B.chaseref11_sameObjs:=fnOK_of (by kernel_rfl) Tryz.func69 (by kernel_rfl)
theorem k_chaseref11_SameG:FnOK cx 361 B.chaseref11_SameG:=fnOK_of (by kernel_rfl) Tryz.func71 (by kernel_rfl)
theorem k_logic_Text_1:FnOK cx 362 B.logic_Text_1:=fnOK_of (by kernel_rfl) Tryz.func78 (by kernel_rfl)
theorem k_logic_Text_2:FnOK cx 363 B.logic_Text_2:=fnOK_of (by kernel_rfl) Tryz.func79 (by kernel_rfl)
theorem k_logic_Text_3:FnOK cx 364 B.logic_Text_3:=fnOK_of (by kernel_rfl) Tryz.func81 (by kernel_rfl)
theorem k_logic_Text_4:FnOK cx 365 B.logic_Text_4:=fnOK_of (by kernel_rfl) Tryz.func83 (by kernel_rfl)
theorem k_logic_Text_5:FnOK cx 366 B.logic_Text_5:=fnOK_of (by kernel_rfl) Tryz.func85 (by kernel_rfl)
theorem k_object_kind_number:FnOK cx 379 B.object_kind_number:=fnOK_of (by kernel_rfl) Tryz.func131 (by kernel_rfl)
theorem k_object_kind_named:FnOK cx 380 B.object_kind_named:=fnOK_of (by kernel_rfl) Tryz.func132 (by kernel_rfl)
theorem k_object_kind_referring:FnOK cx 381 B.object_kind_referring:=fnOK_of (by kernel_rfl) Tryz.func133 (by kernel_rfl)
theorem k_logic_judge_operands:FnOK cx 382 B.logic_judge_operands:=fnOK_of (by kernel_rfl) Tryz.func94 (by kernel_rfl)
theorem k_logic_allows:FnOK cx 383 B.logic_allows:=fnOK_of (by kernel_rfl) Tryz.func95 (by kernel_rfl)
theorem k_object_Compare:FnOK cx 385 B.object_Compare:=fnOK_of (by kernel_rfl) Tryz.func97 (by kernel_rfl)
theorem k_logic_judge_result:FnOK cx 386 B.logic_judge_result:=fnOK_of (by kernel_rfl) Tryz.func98 (by kernel_rfl)
theorem k_heap_Equal:FnOK cx 387 B.heap_Equal:=fnOK_of (by kernel_rfl) Tryz.func99 (by kernel_rfl)
theorem k_object_Name:FnOK cx 388 B.object_Name:=fnOK_of (by kernel_rfl) Tryz.func100 (by kernel_rfl)
theorem k_logic_executable_1:FnOK cx 389 B.logic_executable_1:=fnOK_of (by kernel_rfl) Tryz.func101 (by kernel_rfl)
theorem k_logic_converted_api_Obj_1:FnOK cx 390 B.logic_converted_api_Obj_1:=fnOK_of (by kernel_rfl) Tryz.func102 (by kernel_rfl)
theorem k_object_Value:FnOK cx 391 B.object_Value:=fnOK_of (by kernel_rfl) Tryz.func104 (by kernel_rfl)
theorem k_object_Int:FnOK cx 392 B.object_Int:=fnOK_of (by kernel_rfl) Tryz.func105 (by kernel_rfl)
theorem k_object_Real:FnOK cx 393 B.object_Real:=fnOK_of (by kernel_rfl) Tryz.func106 (by kernel_rfl)
theorem k_logic_judge_put:FnOK cx 394 B.logic_judge_put:=fnOK_of (by kernel_rfl) Tryz.func107 (by kernel_rfl)
theorem k_strconv_FormatUint:FnOK cx 395 B.strconv_FormatUint:=fnOK_of (by kernel_rfl) Tryz.func109 (by kernel_rfl)
theorem k_heap_viewOf:FnOK cx 400 B.heap_viewOf:=fnOK_of (by kernel_rfl) Tryz.func126 (by kernel_rfl)
theorem k_heap_view_cell:FnOK cx 401 B.heap_view_cell:=fnOK_of (by kernel_rfl) Tryz.func127 (by kernel_rfl)
theorem k_chaseref11_SameCell:FnOK cx 402 B.chaseref11_SameCell:=fnOK_of (by kernel_rfl) Tryz.func120 (by kernel_rfl)
theorem k_logic_printed:FnOK cx 404 B.logic_printed:=fnOK_of (by kernel_rfl) Tryz.func84 (by kernel_rfl)
theorem k_object_kind_longest:FnOK cx 417 B.object_kind_longest:=fnOK_of (by kernel_rfl) Tryz.func167 (by kernel_rfl)
theorem k_stack_Top:FnOK cx 418 B.stack_Top:=fnOK_of (by kernel_rfl) Tryz.func134 (by kernel_rfl)
theorem k_stack_Drop:FnOK cx 419 B.stack_Drop:=fnOK_of (by kernel_rfl) Tryz.func136 (by kernel_rfl)
theorem k_heap_octets:FnOK cx 420 B.heap_octets:=fnOK_of (by kernel_rfl) Tryz.func137 (by kernel_rfl)
theorem k_object_Name_1:FnOK cx 421 B.object_Name_1:=fnOK_of (by kernel_rfl) Tryz.func139 (by kernel_rfl)
theorem k_object_made_string:FnOK cx 422 B.object_made_string:=fnOK_of (by kernel_rfl) Tryz.func138 (by kernel_rfl)
theorem k_logic_judge_number:FnOK cx 423 B.logic_judge_number:=fnOK_of (by kernel_rfl) Tryz.func103 (by kernel_rfl)
theorem k_object_numberOf:FnOK cx 424 B.object_numberOf:=fnOK_of (by kernel_rfl) Tryz.func141 (by kernel_rfl)
theorem k_object_number_value:FnOK cx 425 B.object_number_value:=fnOK_of (by kernel_rfl) Tryz.func142 (by kernel_rfl)
theorem k_object_made_int:FnOK cx 426 B.object_made_int:=fnOK_of (by kernel_rfl) Tryz.func143 (by kernel_rfl)
theorem k_object_Int_1:FnOK cx 427 B.object_Int_1:=fnOK_of (by kernel_rfl) Tryz.func144 (by kernel_rfl)
theorem k_object_Real_1:FnOK cx 428 B.object_Real_1:=fnOK_of (by kernel_rfl) Tryz.func145 (by kernel_rfl)
theorem k_heap_Interval:FnOK cx 429 B.heap_Interval:=fnOK_of (by kernel_rfl) Tryz.func146 (by kernel_rfl)
theorem k_heap_PutBytes:FnOK cx 430 B.heap_PutBytes:=fnOK_of (by kernel_rfl) Tryz.func147 (by kernel_rfl)
theorem k_istrconv_FormatUint:FnOK cx 431 B.istrconv_FormatUint:=fnOK_of (by kernel_rfl) Tryz.func154 (by kernel_rfl)
theorem k_slices_Contains_int_int:FnOK cx 432 B.slices_Contains_int_int:=fnOK_of (by kernel_rfl) Tryz.func166 (by kernel_rfl)
theorem k_heap_view_room:FnOK cx 439 B.heap_view_room:=fnOK_of (by kernel_rfl) Tryz.func172 (by kernel_rfl)
theorem k_heap_replaced_byte:FnOK cx 440 B.heap_replaced_byte:=fnOK_of (by kernel_rfl) Tryz.func173 (by kernel_rfl)
theorem k_heap_view_with:FnOK cx 441 B.heap_view_with:=fnOK_of (by kernel_rfl) Tryz.func174 (by kernel_rfl)
theorem k_strconv_small:FnOK cx 442 B.strconv_small:=fnOK_of (by kernel_rfl) Tryz.func182 (by kernel_rfl)
theorem k_strconv_numDigits:FnOK cx 443 B.strconv_numDigits:=fnOK_of (by kernel_rfl) Tryz.func183 (by kernel_rfl)
theorem k_strconv_formatBase10:FnOK cx 444 B.strconv_formatBase10:=fnOK_of (by kernel_rfl) Tryz.func184 (by kernel_rfl)
theorem k_strconv_formatBits:FnOK cx 445 B.strconv_formatBits:=fnOK_of (by kernel_rfl) Tryz.func185 (by kernel_rfl)
theorem k_slices_Index_int_int:FnOK cx 446 B.slices_Index_int_int:=fnOK_of (by kernel_rfl) Tryz.func193 (by kernel_rfl)
theorem k_strconv_log10Pow2:FnOK cx 447 B.strconv_log10Pow2:=fnOK_of (by kernel_rfl) Tryz.func206 (by kernel_rfl)
theorem k_strconv_bool2_int:FnOK cx 448 B.strconv_bool2_int:=fnOK_of (by kernel_rfl) Tryz.func208 (by kernel_rfl)
theorem k_strconv_isPowerOfTwo:FnOK cx 449 B.strconv_isPowerOfTwo:=fnOK_of (by kernel_rfl) Tryz.func209 (by kernel_rfl)
theorem k_math_bits_TrailingZeros:FnOK cx 450 B.math_bits_TrailingZeros:=fnOK_of (by kernel_rfl) Tryz.func210 (by kernel_rfl)
theorem k_math_bits_TrailingZeros32:FnOK cx 451 B.math_bits_TrailingZeros32:=fnOK_of (by kernel_rfl) Tryz.func226 (by kernel_rfl)
theorem k_math_bits_TrailingZeros64:FnOK cx 452 B.math_bits_TrailingZeros64:=fnOK_of (by kernel_rfl) Tryz.func227 (by kernel_rfl)
def fnT:FT:=(.node (.node (.node (.node (.node (.node (.node (.node .nil 53 B.math_bits_Len64 .nil) 63 B.lex_Number .nil) 75 B.lex_numeral_whole (.node .nil 76 B.lex_numeral_radix
 .nil)) 77 B.lex_numeral_decimal (.node (.node .nil 91 B.strings_Builder_WriteByte .nil) 92 B.strings_Builder_String (.node .nil 94 B.strings_HasPrefix .nil))) 95 B.lex_count (.node
 (.node (.node (.node .nil 96 B.lex_numeral_answer .nil) 97 B.strings_Cut .nil) 98 B.strings_ContainsAny (.node .nil 99 B.lex_pattern .nil)) 100 B.real_Parse (.node (.node .nil 109 B.strings_Builder_copyCheck
 .nil) 110 B.real_Is (.node .nil 112 B.lex_digits .nil)))) 113 B.real_scanner_decimal (.node (.node (.node (.node (.node .nil 114 B.real_front .nil) 115 B.real_fraction .nil) 116 B.real_double
 (.node .nil 119 B.lex_digits_1 .nil)) 120 B.real_scanner_one (.node (.node .nil 121 B.real_scanner_digits .nil) 122 B.lex_value (.node .nil 123 B.stringslite_HasPrefix .nil))) 133 B.real_Print
 (.node (.node (.node (.node .nil 136 B.real_Print_1 .nil) 137 B.real_result_string .nil) 138 B.real_whole (.node .nil 139 B.real_whole_1 .nil)) 140 B.stringslite_Cut (.node (.node .nil
 141 B.strings_IndexAny .nil) 143 B.strings_IndexRune (.node .nil 144 B.strings_shouldUseASCIISet .nil))))) 145 B.strings_makeASCIISet (.node (.node (.node (.node (.node (.node .nil
 146 B.strings_asciiSet_contains .nil) 147 B.unicode_utf8_ValidRune .nil) 148 B.bytealg_Cutover (.node .nil 296 B.chaselaw14_LogicKnown .nil)) 300 B.chaselaw14_wakes (.node (.node .nil
 301 B.chaselaw14_i .nil) 302 B.chaselaw14_b (.node .nil 304 B.heap_Fits .nil))) 305 B.object_KindName (.node (.node (.node (.node .nil 306 B.chaselaw14_strings .nil) 307 B.chaselaw14_r
 .nil) 308 B.logic_Do (.node .nil 312 B.chaselaw14_gives .nil)) 313 B.chaselaw14_writes (.node (.node .nil 314 B.chaselaw14_fails .nil) 315 B.chaseref11_SameState (.node .nil 316 B.logic_Text
 .nil)))) 325 B.chaseref10_Bool (.node (.node (.node (.node (.node .nil 326 B.object_Check .nil) 327 B.heap_cellKind .nil) 328 B.heap_length (.node .nil 329 B.object_kinds .nil)) 330
 B.logic_Do_1 (.node (.node .nil 331 B.logic_Do_2 .nil) 332 B.logic_Do_3 (.node .nil 333 B.logic_Do_4 .nil))) 334 B.logic_judge_compare (.node (.node (.node (.node .nil 335 B.logic_Do_5
 .nil) 336 B.logic_Do_6 .nil) 337 B.logic_Do_7 (.node .nil 338 B.logic_judge_bits .nil)) 339 B.logic_judge_one (.node (.node .nil 340 B.logic_judge_same .nil) 341 B.logic_judge_not (.node
 .nil 342 B.logic_judge_bitshift .nil)))))) 343 B.object_Bool (.node (.node (.node (.node (.node (.node (.node .nil 344 B.stack_Push .nil) 345 B.logic_kindOf .nil) 346 B.logic_Do_8 (.node
 .nil 347 B.logic_executable .nil)) 348 B.logic_judge_named (.node (.node .nil 349 B.logic_converted_api_Obj .nil) 350 B.object_ToInt (.node .nil 351 B.object_ToReal .nil))) 352 B.logic_judge_cvs
 (.node (.node (.node (.node .nil 353 B.logic_judge_cvrs .nil) 357 B.heap_Bytes .nil) 358 B.slices_Equal_api_Obj_api_Obj (.node .nil 359 B.chaseref11_Same .nil)) 360 B.chaseref11_sameObjs
 (.node (.node .nil 361 B.chaseref11_SameG .nil) 362 B.logic_Text_1 (.node .nil 363 B.logic_Text_2 .nil)))) 364 B.logic_Text_3 (.node (.node (.node (.node (.node .nil 365 B.logic_Text_4
 .nil) 366 B.logic_Text_5 .nil) 379 B.object_kind_number (.node .nil 380 B.object_kind_named .nil)) 381 B.object_kind_referring (.node (.node .nil 382 B.logic_judge_operands .nil) 383
 B.logic_allows (.node .nil 385 B.object_Compare .nil))) 386 B.logic_judge_result (.node (.node (.node (.node .nil 387 B.heap_Equal .nil) 388 B.object_Name .nil) 389 B.logic_executable_1
 (.node .nil 390 B.logic_converted_api_Obj_1 .nil)) 391 B.object_Value (.node (.node .nil 392 B.object_Int .nil) 393 B.object_Real (.node .nil 394 B.logic_judge_put .nil))))) 395 B.strconv_FormatUint
 (.node (.node (.node (.node (.node (.node .nil 400 B.heap_viewOf .nil) 401 B.heap_view_cell .nil) 402 B.chaseref11_SameCell (.node .nil 404 B.logic_printed .nil)) 417 B.object_kind_longest
 (.node (.node .nil 418 B.stack_Top .nil) 419 B.stack_Drop (.node .nil 420 B.heap_octets .nil))) 421 B.object_Name_1 (.node (.node (.node (.node .nil 422 B.object_made_string .nil) 423
 B.logic_judge_number .nil) 424 B.object_numberOf (.node .nil 425 B.object_number_value .nil)) 426 B.object_made_int (.node (.node .nil 427 B.object_Int_1 .nil) 428 B.object_Real_1 (.node
 .nil 429 B.heap_Interval .nil)))) 430 B.heap_PutBytes (.node (.node (.node (.node (.node .nil 431 B.istrconv_FormatUint .nil) 432 B.slices_Contains_int_int .nil) 439 B.heap_view_room
 (.node .nil 440 B.heap_replaced_byte .nil)) 441 B.heap_view_with (.node (.node .nil 442 B.strconv_small .nil) 443 B.strconv_numDigits (.node .nil 444 B.strconv_formatBase10 .nil)))
 445 B.strconv_formatBits (.node (.node (.node .nil 446 B.slices_Index_int_int .nil) 447 B.strconv_log10Pow2 (.node .nil 448 B.strconv_bool2_int .nil)) 449 B.strconv_isPowerOfTwo (.node
 (.node .nil 450 B.math_bits_TrailingZeros .nil) 451 B.math_bits_TrailingZeros32 (.node .nil 452 B.math_bits_TrailingZeros64 .nil)))))))
theorem fnT_all:fnT.All (FnOK cx):=⟨⟨⟨⟨⟨⟨⟨⟨trivial,k_math_bits_Len64,trivial⟩,k_lex_Number,trivial⟩,k_lex_numeral_whole,⟨trivial,k_lex_numeral_radix,trivial⟩⟩,k_lex_numeral_decimal,
 ⟨⟨trivial,k_strings_Builder_WriteByte,trivial⟩,k_strings_Builder_String,⟨trivial,k_strings_HasPrefix,trivial⟩⟩⟩,k_lex_count,⟨⟨⟨⟨trivial,k_lex_numeral_answer,trivial⟩,k_strings_Cut,
 trivial⟩,k_strings_ContainsAny,⟨trivial,k_lex_pattern,trivial⟩⟩,k_real_Parse,⟨⟨trivial,k_strings_Builder_copyCheck,trivial⟩,k_real_Is,⟨trivial,k_lex_digits,trivial⟩⟩⟩⟩,
 k_real_scanner_decimal,⟨⟨⟨⟨⟨trivial,k_real_front,trivial⟩,k_real_fraction,trivial⟩,k_real_double,⟨trivial,k_lex_digits_1,trivial⟩⟩,k_real_scanner_one,⟨⟨trivial,k_real_scanner_digits,
 trivial⟩,k_lex_value,⟨trivial,k_stringslite_HasPrefix,trivial⟩⟩⟩,k_real_Print,⟨⟨⟨⟨trivial,k_real_Print_1,trivial⟩,k_real_result_string,trivial⟩,k_real_whole,⟨trivial,k_real_whole_1,
 trivial⟩⟩,k_stringslite_Cut,⟨⟨trivial,k_strings_IndexAny,trivial⟩,k_strings_IndexRune,⟨trivial,k_strings_shouldUseASCIISet,trivial⟩⟩⟩⟩⟩,k_strings_makeASCIISet,⟨⟨⟨⟨⟨⟨trivial,
 k_strings_asciiSet_contains,trivial⟩,k_unicode_utf8_ValidRune,trivial⟩,k_bytealg_Cutover,⟨trivial,k_chaselaw14_LogicKnown,trivial⟩⟩,k_chaselaw14_wakes,⟨⟨trivial,k_chaselaw14_i,
 trivial⟩,k_chaselaw14_b,⟨trivial,k_heap_Fits,trivial⟩⟩⟩,k_object_KindName,⟨⟨⟨⟨trivial,k_chaselaw14_strings,trivial⟩,k_chaselaw14_r,trivial⟩,k_logic_Do,⟨trivial,k_chaselaw14_gives,
 trivial⟩⟩,k_chaselaw14_writes,⟨⟨trivial,k_chaselaw14_fails,trivial⟩,k_chaseref11_SameState,⟨trivial,k_logic_Text,trivial⟩⟩⟩⟩,k_chaseref10_Bool,⟨⟨⟨⟨⟨trivial,k_object_Check,
 trivial⟩,k_heap_cellKind,trivial⟩,k_heap_length,⟨trivial,k_object_kinds,trivial⟩⟩,k_logic_Do_1,⟨⟨trivial,k_logic_Do_2,trivial⟩,k_logic_Do_3,⟨trivial,k_logic_Do_4,trivial⟩⟩⟩,
 k_logic_judge_compare,⟨⟨⟨⟨trivial,k_logic_Do_5,trivial⟩,k_logic_Do_6,trivial⟩,k_logic_Do_7,⟨trivial,k_logic_judge_bits,trivial⟩⟩,k_logic_judge_one,⟨⟨trivial,k_logic_judge_same,
 trivial⟩,k_logic_judge_not,⟨trivial,k_logic_judge_bitshift,trivial⟩⟩⟩⟩⟩⟩,k_object_Bool,⟨⟨⟨⟨⟨⟨⟨trivial,k_stack_Push,trivial⟩,k_logic_kindOf,trivial⟩,k_logic_Do_8,⟨trivial,
 k_logic_executable,trivial⟩⟩,k_logic_judge_named,⟨⟨trivial,k_logic_converted_api_Obj,trivial⟩,k_object_ToInt,⟨trivial,k_object_ToReal,trivial⟩⟩⟩,k_logic_judge_cvs,⟨⟨⟨⟨trivial,
 k_logic_judge_cvrs,trivial⟩,k_heap_Bytes,trivial⟩,k_slices_Equal_api_Obj_api_Obj,⟨trivial,k_chaseref11_Same,trivial⟩⟩,k_chaseref11_sameObjs,⟨⟨trivial,k_chaseref11_SameG,trivial⟩,
 k_logic_Text_1,⟨trivial,k_logic_Text_2,trivial⟩⟩⟩⟩,k_logic_Text_3,⟨⟨⟨⟨⟨trivial,k_logic_Text_4,trivial⟩,k_logic_Text_5,trivial⟩,k_object_kind_number,⟨trivial,k_object_kind_named,
 trivial⟩⟩,k_object_kind_referring,⟨⟨trivial,k_logic_judge_operands,trivial⟩,k_logic_allows,⟨trivial,k_object_Compare,trivial⟩⟩⟩,k_logic_judge_result,⟨⟨⟨⟨trivial,k_heap_Equal,
 trivial⟩,k_object_Name,trivial⟩,k_logic_executable_1,⟨trivial,k_logic_converted_api_Obj_1,trivial⟩⟩,k_object_Value,⟨⟨trivial,k_object_Int,trivial⟩,k_object_Real,⟨trivial,
 k_logic_judge_put,trivial⟩⟩⟩⟩⟩,k_strconv_FormatUint,⟨⟨⟨⟨⟨⟨trivial,k_heap_viewOf,trivial⟩,k_heap_view_cell,trivial⟩,k_chaseref11_SameCell,⟨trivial,k_logic_printed,trivial⟩⟩,
 k_object_kind_longest,⟨⟨trivial,k_stack_Top,trivial⟩,k_stack_Drop,⟨trivial,k_heap_octets,trivial⟩⟩⟩,k_object_Name_1,⟨⟨⟨⟨trivial,k_object_made_string,trivial⟩,k_logic_judge_number,
 trivial⟩,k_object_numberOf,⟨trivial,k_object_number_value,trivial⟩⟩,k_object_made_int,⟨⟨trivial,k_object_Int_1,trivial⟩,k_object_Real_1,⟨trivial,k_heap_Interval,trivial⟩⟩⟩⟩,
 k_heap_PutBytes,⟨⟨⟨⟨⟨trivial,k_istrconv_FormatUint,trivial⟩,k_slices_Contains_int_int,trivial⟩,k_heap_view_room,⟨trivial,k_heap_replaced_byte,trivial⟩⟩,k_heap_view_with,⟨⟨trivial,
 k_strconv_small,trivial⟩,k_strconv_numDigits,⟨trivial,k_strconv_formatBase10,trivial⟩⟩⟩,k_strconv_formatBits,⟨⟨⟨trivial,k_slices_Index_int_int,trivial⟩,k_strconv_log10Pow2,
 ⟨trivial,k_strconv_bool2_int,trivial⟩⟩,k_strconv_isPowerOfTwo,⟨⟨trivial,k_math_bits_TrailingZeros,trivial⟩,k_math_bits_TrailingZeros32,⟨trivial,k_math_bits_TrailingZeros64,
 trivial⟩⟩⟩⟩⟩⟩⟩
def enT:Nat→Option Entry:=fun k=>if k=384 then some B.E_strings_Compare else if k=396 then some B.E_strings_ToUpper else if k=403 then some B.E_strconv_FormatBool else if k=132 then some B.E_strconv_Itoa else if k=118 then some B.E_abi_NoEscape else if k=142 then some B.E_stringslite_Index else if k=84 then some B.E_strings_IndexByte else none
def tab:Tab:=⟨fnT.get,enT⟩
theorem has_strings_Compare:B.H_strings_Compare tab:=⟨rfl⟩
theorem has_strings_ToUpper:B.H_strings_ToUpper tab:=⟨rfl⟩
theorem has_strconv_FormatBool:B.H_strconv_FormatBool tab:=⟨rfl⟩
theorem has_strconv_Itoa:B.H_strconv_Itoa tab:=⟨rfl⟩
theorem has_abi_NoEscape:B.H_abi_NoEscape tab:=⟨rfl⟩
theorem has_stringslite_Index:B.H_stringslite_Index tab:=⟨rfl⟩
theorem has_strings_IndexByte:B.H_strings_IndexByte tab:=⟨rfl⟩
theorem has_chaselaw14_strings:B.H_chaselaw14_strings tab:=⟨rfl,rfl⟩
theorem has_chaselaw14_i:B.H_chaselaw14_i tab:=⟨rfl,rfl⟩
theorem has_chaselaw14_r:B.H_chaselaw14_r tab:=⟨rfl,rfl⟩
theorem has_chaseref10_Bool:B.H_chaseref10_Bool tab:=⟨rfl,rfl⟩
theorem has_slices_Equal_api_Obj_api_Obj:B.H_slices_Equal_api_Obj_api_Obj tab:=⟨rfl,rfl⟩
theorem has_logic_Do_1:B.H_logic_Do_1 tab:=⟨rfl,rfl⟩
theorem has_logic_Do_2:B.H_logic_Do_2 tab:=⟨rfl,rfl⟩
theorem has_logic_Do_3:B.H_logic_Do_3 tab:=⟨rfl,rfl⟩
theorem has_logic_Do_4:B.H_logic_Do_4 tab:=⟨rfl,rfl⟩
theorem has_logic_Do_5:B.H_logic_Do_5 tab:=⟨rfl,rfl⟩
theorem has_logic_Do_6:B.H_logic_Do_6 tab:=⟨rfl,rfl⟩
theorem has_logic_Do_7:B.H_logic_Do_7 tab:=⟨rfl,rfl⟩
theorem has_object_Bool:B.H_object_Bool tab:=⟨rfl,rfl⟩
theorem has_stack_Push:B.H_stack_Push tab:=⟨rfl,rfl⟩
theorem has_logic_Do_8:B.H_logic_Do_8 tab:=⟨rfl,rfl,has_object_Bool⟩
theorem has_chaseref11_sameObjs:B.H_chaseref11_sameObjs tab:=⟨rfl,rfl⟩
theorem has_chaseref11_SameG:B.H_chaseref11_SameG tab:=⟨rfl,rfl⟩
theorem has_logic_Text_1:B.H_logic_Text_1 tab:=⟨rfl,rfl⟩
theorem has_logic_Text_2:B.H_logic_Text_2 tab:=⟨rfl,rfl,has_strconv_FormatBool⟩
theorem has_logic_Text_3:B.H_logic_Text_3 tab:=⟨rfl,rfl,has_strconv_Itoa⟩
theorem has_heap_view_cell:B.H_heap_view_cell tab:=⟨rfl,rfl⟩
theorem has_chaseref11_SameCell:B.H_chaseref11_SameCell tab:=⟨rfl,rfl,has_chaseref11_sameObjs⟩
theorem has_logic_allows:B.H_logic_allows tab:=⟨rfl,rfl⟩
theorem has_logic_executable_1:B.H_logic_executable_1 tab:=⟨rfl,rfl⟩
theorem has_heap_cellKind:B.H_heap_cellKind tab:=⟨rfl,rfl⟩
theorem has_heap_length:B.H_heap_length tab:=⟨rfl,rfl⟩
theorem has_stack_Top:B.H_stack_Top tab:=⟨rfl,rfl⟩
theorem has_stack_Drop:B.H_stack_Drop tab:=⟨rfl,rfl⟩
theorem has_object_kinds:B.H_object_kinds tab:=⟨rfl,rfl⟩
theorem has_object_Name_1:B.H_object_Name_1 tab:=⟨rfl,rfl⟩
theorem has_object_number_value:B.H_object_number_value tab:=⟨rfl,rfl⟩
theorem has_object_Int_1:B.H_object_Int_1 tab:=⟨rfl,rfl⟩
theorem has_object_Real_1:B.H_object_Real_1 tab:=⟨rfl,rfl⟩
theorem has_object_kind_number:B.H_object_kind_number tab:=⟨rfl,rfl⟩
theorem has_object_kind_named:B.H_object_kind_named tab:=⟨rfl,rfl⟩
theorem has_slices_Index_int_int:B.H_slices_Index_int_int tab:=⟨rfl,rfl⟩
theorem has_heap_view_room:B.H_heap_view_room tab:=⟨rfl,rfl⟩
theorem has_heap_replaced_byte:B.H_heap_replaced_byte tab:=⟨rfl,rfl⟩
theorem has_heap_view_with:B.H_heap_view_with tab:=⟨rfl,rfl⟩
theorem has_strconv_small:B.H_strconv_small tab:=⟨rfl,rfl⟩
theorem has_strconv_formatBase10:B.H_strconv_formatBase10 tab:=⟨rfl,rfl⟩
theorem has_object_kind_longest:B.H_object_kind_longest tab:=⟨rfl,rfl⟩
theorem has_math_bits_Len64:B.H_math_bits_Len64 tab:=⟨rfl,rfl⟩
theorem has_strconv_log10Pow2:B.H_strconv_log10Pow2 tab:=⟨rfl,rfl⟩
theorem has_strconv_bool2_int:B.H_strconv_bool2_int tab:=⟨rfl,rfl⟩
theorem has_strconv_isPowerOfTwo:B.H_strconv_isPowerOfTwo tab:=⟨rfl,rfl⟩
theorem has_strings_Builder_String:B.H_strings_Builder_String tab:=⟨rfl,rfl⟩
theorem has_real_Is:B.H_real_Is tab:=⟨rfl,rfl⟩
theorem has_lex_numeral_answer:B.H_lex_numeral_answer tab:=⟨rfl,rfl⟩
theorem has_math_bits_TrailingZeros32:B.H_math_bits_TrailingZeros32 tab:=⟨rfl,rfl⟩
theorem has_math_bits_TrailingZeros64:B.H_math_bits_TrailingZeros64 tab:=⟨rfl,rfl⟩
theorem has_strings_Builder_copyCheck:B.H_strings_Builder_copyCheck tab:=⟨rfl,rfl,has_abi_NoEscape⟩
theorem has_real_whole_1:B.H_real_whole_1 tab:=⟨rfl,rfl⟩
theorem has_stringslite_HasPrefix:B.H_stringslite_HasPrefix tab:=⟨rfl,rfl⟩
theorem has_stringslite_Cut:B.H_stringslite_Cut tab:=⟨rfl,rfl,has_stringslite_Index⟩
theorem has_real_front:B.H_real_front tab:=⟨rfl,rfl⟩
theorem has_real_fraction:B.H_real_fraction tab:=⟨rfl,rfl⟩
theorem has_real_double:B.H_real_double tab:=⟨rfl,rfl⟩
theorem has_strings_shouldUseASCIISet:B.H_strings_shouldUseASCIISet tab:=⟨rfl,rfl⟩
theorem has_strings_makeASCIISet:B.H_strings_makeASCIISet tab:=⟨rfl,rfl⟩
theorem has_strings_asciiSet_contains:B.H_strings_asciiSet_contains tab:=⟨rfl,rfl⟩
theorem has_real_scanner_one:B.H_real_scanner_one tab:=⟨rfl,rfl⟩
theorem has_real_scanner_digits:B.H_real_scanner_digits tab:=⟨rfl,rfl,has_real_scanner_one⟩
theorem has_lex_value:B.H_lex_value tab:=⟨rfl,rfl⟩
theorem has_unicode_utf8_ValidRune:B.H_unicode_utf8_ValidRune tab:=⟨rfl,rfl⟩
theorem has_bytealg_Cutover:B.H_bytealg_Cutover tab:=⟨rfl,rfl⟩
theorem has_chaselaw14_b:B.H_chaselaw14_b tab:=⟨rfl,rfl,has_chaseref10_Bool⟩
theorem has_chaseref11_Same:B.H_chaseref11_Same tab:=⟨rfl,rfl,has_chaseref11_SameCell⟩
theorem has_logic_executable:B.H_logic_executable tab:=⟨rfl,rfl,has_logic_executable_1⟩
theorem has_logic_judge_operands:B.H_logic_judge_operands tab:=⟨rfl,rfl,has_stack_Top,has_logic_allows⟩
theorem has_logic_judge_result:B.H_logic_judge_result tab:=⟨rfl,rfl,has_stack_Drop,has_stack_Push⟩
theorem has_slices_Contains_int_int:B.H_slices_Contains_int_int tab:=⟨rfl,rfl,has_slices_Index_int_int⟩
theorem has_object_kind_referring:B.H_object_kind_referring tab:=⟨rfl,rfl,has_object_kind_longest⟩
theorem has_strconv_numDigits:B.H_strconv_numDigits tab:=⟨rfl,rfl,has_math_bits_Len64,has_strconv_log10Pow2,has_strconv_bool2_int⟩
theorem has_real_result_string:B.H_real_result_string tab:=⟨rfl,rfl,has_real_Is⟩
theorem has_math_bits_TrailingZeros:B.H_math_bits_TrailingZeros tab:=⟨rfl,rfl,has_math_bits_TrailingZeros32,has_math_bits_TrailingZeros64⟩
theorem has_strings_Builder_WriteByte:B.H_strings_Builder_WriteByte tab:=⟨rfl,rfl,has_strings_Builder_copyCheck⟩
theorem has_real_whole:B.H_real_whole tab:=⟨rfl,rfl,has_real_whole_1⟩
theorem has_strings_HasPrefix:B.H_strings_HasPrefix tab:=⟨rfl,rfl,has_stringslite_HasPrefix⟩
theorem has_strings_Cut:B.H_strings_Cut tab:=⟨rfl,rfl,has_stringslite_Cut⟩
theorem has_real_scanner_decimal:B.H_real_scanner_decimal tab:=⟨rfl,rfl,has_real_scanner_one,has_real_scanner_digits⟩
theorem has_lex_digits_1:B.H_lex_digits_1 tab:=⟨rfl,rfl,has_lex_value⟩
theorem has_strings_IndexRune:B.H_strings_IndexRune tab:=⟨rfl,rfl,has_strings_IndexByte,has_unicode_utf8_ValidRune,has_bytealg_Cutover⟩
theorem has_chaseref11_SameState:B.H_chaseref11_SameState tab:=⟨rfl,rfl,has_chaseref11_sameObjs,has_chaseref11_Same,has_chaseref11_SameG⟩
theorem has_logic_judge_bits:B.H_logic_judge_bits tab:=⟨rfl,rfl,has_logic_judge_operands,has_logic_judge_result⟩
theorem has_logic_judge_one:B.H_logic_judge_one tab:=⟨rfl,rfl,has_logic_judge_operands,has_logic_judge_result⟩
theorem has_logic_judge_not:B.H_logic_judge_not tab:=⟨rfl,rfl,has_logic_judge_operands,has_logic_judge_result⟩
theorem has_logic_judge_bitshift:B.H_logic_judge_bitshift tab:=⟨rfl,rfl,has_logic_judge_operands,has_logic_judge_result⟩
theorem has_object_Check:B.H_object_Check tab:=⟨rfl,rfl,has_object_kinds,has_object_kind_number,has_object_kind_named,has_object_kind_referring⟩
theorem has_object_made_string:B.H_object_made_string tab:=⟨rfl,rfl,has_object_Check⟩
theorem has_object_numberOf:B.H_object_numberOf tab:=⟨rfl,rfl,has_object_Check⟩
theorem has_object_made_int:B.H_object_made_int tab:=⟨rfl,rfl,has_object_Check⟩
theorem has_heap_Interval:B.H_heap_Interval tab:=⟨rfl,rfl,has_object_Check⟩
theorem has_strconv_formatBits:B.H_strconv_formatBits tab:=⟨rfl,rfl,has_strconv_isPowerOfTwo,has_math_bits_TrailingZeros⟩
theorem has_real_Print_1:B.H_real_Print_1 tab:=⟨rfl,rfl,has_strings_Builder_WriteByte,has_real_whole,has_strings_Builder_String⟩
theorem has_real_Parse:B.H_real_Parse tab:=⟨rfl,rfl,has_real_scanner_decimal,has_real_front,has_real_fraction,has_real_double,has_real_Is⟩
theorem has_lex_digits:B.H_lex_digits tab:=⟨rfl,rfl,has_lex_digits_1⟩
theorem has_strings_IndexAny:B.H_strings_IndexAny tab:=⟨rfl,rfl,has_strings_IndexRune,has_strings_shouldUseASCIISet,has_strings_makeASCIISet,has_strings_asciiSet_contains⟩
theorem has_heap_Fits:B.H_heap_Fits tab:=⟨rfl,rfl,has_object_Check,has_heap_cellKind,has_heap_length⟩
theorem has_heap_viewOf:B.H_heap_viewOf tab:=⟨rfl,rfl,has_heap_Fits,has_slices_Contains_int_int⟩
theorem has_object_KindName:B.H_object_KindName tab:=⟨rfl,rfl,has_object_Check,has_object_kinds⟩
theorem has_object_Name:B.H_object_Name tab:=⟨rfl,rfl,has_object_Name_1,has_object_made_string⟩
theorem has_object_Value:B.H_object_Value tab:=⟨rfl,rfl,has_object_numberOf,has_object_number_value⟩
theorem has_object_Int:B.H_object_Int tab:=⟨rfl,rfl,has_object_made_int,has_object_Int_1⟩
theorem has_object_Real:B.H_object_Real tab:=⟨rfl,rfl,has_object_made_int,has_object_Real_1⟩
theorem has_heap_PutBytes:B.H_heap_PutBytes tab:=⟨rfl,rfl,has_heap_viewOf,has_heap_view_room,has_heap_view_cell,has_heap_replaced_byte,has_heap_view_with⟩
theorem has_istrconv_FormatUint:B.H_istrconv_FormatUint tab:=⟨rfl,rfl,has_strconv_small,has_strconv_numDigits,has_strconv_formatBase10,has_strconv_formatBits⟩
theorem has_real_Print:B.H_real_Print tab:=⟨rfl,rfl,has_real_Print_1,has_real_result_string⟩
theorem has_lex_count:B.H_lex_count tab:=⟨rfl,rfl,has_lex_digits⟩
theorem has_strings_ContainsAny:B.H_strings_ContainsAny tab:=⟨rfl,rfl,has_strings_IndexAny⟩
theorem has_lex_pattern:B.H_lex_pattern tab:=⟨rfl,rfl,has_real_Parse⟩
theorem has_heap_Bytes:B.H_heap_Bytes tab:=⟨rfl,rfl,has_heap_viewOf,has_heap_view_cell⟩
theorem has_logic_kindOf:B.H_logic_kindOf tab:=⟨rfl,rfl,has_object_KindName,has_object_Name⟩
theorem has_logic_judge_named:B.H_logic_judge_named tab:=⟨rfl,rfl,has_heap_Bytes,has_object_Name⟩
theorem has_object_ToInt:B.H_object_ToInt tab:=⟨rfl,rfl,has_object_Value,has_object_Int⟩
theorem has_object_ToReal:B.H_object_ToReal tab:=⟨rfl,rfl,has_object_Value,has_object_Real⟩
theorem has_logic_Text_5:B.H_logic_Text_5 tab:=⟨rfl,rfl,has_heap_Bytes⟩
theorem has_object_Compare:B.H_object_Compare tab:=⟨rfl,rfl,has_object_Check,has_object_Value⟩
theorem has_logic_judge_put:B.H_logic_judge_put tab:=⟨rfl,rfl,has_heap_Interval,has_heap_PutBytes,has_logic_judge_result⟩
theorem has_strconv_FormatUint:B.H_strconv_FormatUint tab:=⟨rfl,rfl,has_istrconv_FormatUint⟩
theorem has_logic_printed:B.H_logic_printed tab:=⟨rfl,rfl,has_real_Print⟩
theorem has_heap_octets:B.H_heap_octets tab:=⟨rfl,rfl,has_heap_Bytes⟩
theorem has_lex_numeral_whole:B.H_lex_numeral_whole tab:=⟨rfl,rfl,has_strings_HasPrefix,has_lex_count,has_lex_numeral_answer⟩
theorem has_lex_numeral_radix:B.H_lex_numeral_radix tab:=⟨rfl,rfl,has_strings_Cut,has_lex_count,has_lex_numeral_answer⟩
theorem has_lex_numeral_decimal:B.H_lex_numeral_decimal tab:=⟨rfl,rfl,has_strings_ContainsAny,has_lex_pattern,has_real_Parse⟩
theorem has_logic_judge_compare:B.H_logic_judge_compare tab:=⟨rfl,rfl,has_logic_judge_operands,has_logic_allows,has_heap_Bytes,has_strings_Compare,has_object_Compare,has_object_Bool,has_logic_judge_result⟩
theorem has_logic_Text_4:B.H_logic_Text_4 tab:=⟨rfl,rfl,has_logic_printed⟩
theorem has_heap_Equal:B.H_heap_Equal tab:=⟨rfl,rfl,has_heap_Fits,has_object_Compare,has_heap_octets⟩
theorem has_lex_Number:B.H_lex_Number tab:=⟨rfl,rfl,has_lex_numeral_whole,has_lex_numeral_radix,has_lex_numeral_decimal⟩
theorem has_logic_Text:B.H_logic_Text tab:=⟨rfl,rfl,has_heap_Fits,has_logic_Text_1,has_logic_Text_2,has_logic_Text_3,has_logic_Text_4,has_logic_Text_5⟩
theorem has_logic_judge_same:B.H_logic_judge_same tab:=⟨rfl,rfl,has_logic_judge_operands,has_heap_Equal,has_object_Bool,has_logic_judge_result⟩
theorem has_logic_judge_cvs:B.H_logic_judge_cvs tab:=⟨rfl,rfl,has_logic_judge_operands,has_logic_Text,has_logic_judge_put⟩
theorem has_logic_judge_cvrs:B.H_logic_judge_cvrs tab:=⟨rfl,rfl,has_logic_judge_operands,has_logic_Text,has_object_ToInt,has_strconv_FormatUint,has_strings_ToUpper,has_logic_judge_put⟩
theorem has_logic_judge_number:B.H_logic_judge_number tab:=⟨rfl,rfl,has_heap_Bytes,has_lex_Number,has_object_Real,has_object_Int⟩
theorem has_logic_converted_api_Obj_1:B.H_logic_converted_api_Obj_1 tab:=⟨rfl,rfl,has_logic_judge_number⟩
theorem has_logic_converted_api_Obj:B.H_logic_converted_api_Obj tab:=⟨rfl,rfl,has_logic_converted_api_Obj_1⟩
theorem has_logic_Do:B.H_logic_Do tab:=⟨rfl,rfl,has_logic_Do_1,has_logic_Do_2,has_logic_Do_3,has_logic_Do_4,has_logic_judge_compare,has_logic_Do_5,has_logic_Do_6,has_logic_Do_7,has_logic_judge_bits,has_logic_judge_one,has_logic_judge_same,has_logic_judge_not,has_logic_judge_bitshift,has_object_Bool,has_stack_Push,has_logic_kindOf,has_logic_Do_8,has_logic_executable,has_logic_judge_named,has_logic_converted_api_Obj,has_object_ToInt,has_object_ToReal,has_logic_judge_cvs,has_logic_judge_cvrs⟩
theorem has_chaselaw14_gives:B.H_chaselaw14_gives tab:=⟨rfl,rfl,has_logic_Do⟩
theorem has_chaselaw14_writes:B.H_chaselaw14_writes tab:=⟨rfl,rfl,has_logic_Do,has_heap_Bytes⟩
theorem has_chaselaw14_fails:B.H_chaselaw14_fails tab:=⟨rfl,rfl,has_logic_Do,has_slices_Equal_api_Obj_api_Obj,has_chaseref11_Same⟩
theorem has_chaselaw14_wakes:B.H_chaselaw14_wakes tab:=⟨rfl,rfl,has_chaselaw14_strings,has_chaselaw14_b,has_chaselaw14_i,has_chaselaw14_r,has_chaselaw14_gives,has_chaselaw14_writes,has_chaselaw14_fails⟩
theorem has_chaselaw14_LogicKnown:B.H_chaselaw14_LogicKnown tab:=⟨rfl,rfl,has_chaselaw14_wakes,has_chaselaw14_strings,has_chaselaw14_b,has_chaselaw14_gives,has_chaselaw14_i,has_chaselaw14_r,has_chaselaw14_writes,has_chaselaw14_fails,has_logic_Do,has_chaseref11_SameState,has_logic_Text⟩
theorem tabOK_all (ok384:EntryOK chkD cx 384 B.E_strings_Compare) (ok396:EntryOK chkD cx 396 B.E_strings_ToUpper) (ok403:EntryOK chkD cx 403 B.E_strconv_FormatBool) (ok132:EntryOK chkD cx 132 B.E_strconv_Itoa) (ok118:EntryOK chkD cx 118 B.E_abi_NoEscape) (ok142:EntryOK chkD cx 142 B.E_stringslite_Index) (ok84:EntryOK chkD cx 84 B.E_strings_IndexByte):TabOK chkD cx tab:=tabOK_of fnT_all (fun f F h=>by
 simp only[enT]at h
 by_cases e384:f=384
 ·subst e384;simp only[if_true,Option.some.injEq]at h;subst h;exact ok384
 rw[if_neg e384]at h
 by_cases e396:f=396
 ·subst e396;simp only[if_true,Option.some.injEq]at h;subst h;exact ok396
 rw[if_neg e396]at h
 by_cases e403:f=403
 ·subst e403;simp only[if_true,Option.some.injEq]at h;subst h;exact ok403
 rw[if_neg e403]at h
 by_cases e132:f=132
 ·subst e132;simp only[if_true,Option.some.injEq]at h;subst h;exact ok132
 rw[if_neg e132]at h
 by_cases e118:f=118
 ·subst e118;simp only[if_true,Option.some.injEq]at h;subst h;exact ok118
 rw[if_neg e118]at h
 by_cases e142:f=142
 ·subst e142;simp only[if_true,Option.some.injEq]at h;subst h;exact ok142
 rw[if_neg e142]at h
 by_cases e84:f=84
 ·subst e84;simp only[if_true,Option.some.injEq]at h;subst h;exact ok84
 rw[if_neg e84]at h
 cases h)
end Go.Ev.LogicKnown
