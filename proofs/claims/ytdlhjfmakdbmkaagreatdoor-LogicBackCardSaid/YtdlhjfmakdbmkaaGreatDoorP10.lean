/- The law's own helpers told: wakes. Printed by gwl.py. -/
import Derived.Test.YtdlhjfmakdbmkaaGreatDoorP09
import Derived.KernelRfl
import Derived.Test.YtdlhjfmakdbmkaaGreatDoorP06
import Derived.Lib.SmallJoins
import Derived.Test.YtdlhjfmakdbmkaaGreatDoorP03
import Derived.Test.YtdlhjfmakdbmkaaGreatDoorP07
import Derived.Test.YtdlhjfmakdbmkaaGreatDoorProg
import Derived.Shelf.Strings.Builder1
import Derived.Shelf.Strings.Builder2
import Derived.Shelf.Strings.OnBuilder
import Derived.Shelf.Small.Utf8
import Derived.Shelf.Small.Strs
import Derived.Shelf.Small.Wraps
import Derived.Shelf.Strings.BuilderF
import Derived.Shelf.Strings.BuilderK
import Derived.Shelf.Strings.Builder2Cap
import Derived.Shelf.Strconv.Itoa0
import Derived.Shelf.Strconv.Itoa1
import Derived.Shelf.LaysM
import Derived.Shelf.Strconv.Itoa2
import Derived.Shelf.Strconv.Itoa3
import Derived.Shelf.Strings.Search1
import Derived.Shelf.Strings.Search2
import Derived.Shelf.Strings.Cut
import Derived.Shelf.Strings.Shaped
import Derived.Shelf.Strings.Prefix
import Derived.Shelf.Unicode.Latin
import Derived.Shelf.Unicode.Decode
import Derived.Shelf.Strings.Runes
import Derived.Shelf.Strings.IndexAny
import Derived.Shelf.Strings.AsciiSet
import Derived.Shelf.Strings.IndexAnyAll
import Derived.Shelf.Unicode.DecodeSlow
import Derived.Shelf.Unicode.DecodeAny
import Derived.Shelf.Unicode.CaseLookup
import Derived.Shelf.Unicode.CaseConvert
import Derived.Shelf.Unicode.CaseTo
import Derived.Shelf.Unicode.CaseLaid
import Derived.Shelf.Strings.BuilderCap
import Derived.Shelf.Slices.Turned
import Derived.Shelf.Slices.Equal
import Derived.Shelf.Slices.Empties2
set_option linter.unusedSimpArgs false
set_option linter.unusedVariables false
set_option linter.unusedSectionVars false
namespace Go.Ev
open Go
variable {T : Tab} {st st' : St}
def InS (s1:St) (M a:Nat) (s:St):Prop:=Ext s1 s∧M≤s.nx∧∀n,a≤n→n<M→hget s.h n=none
theorem InS.start {s1:St} (hw:s1.Wf) {M:Nat} (h:s1.nx≤M):InS s1 M s1.nx ⟨s1.h,M⟩:=by
 refine⟨(Ext.refl hw).upN h,Nat.le_refl _,fun n h1 h2=> ?_⟩
 cases hg:hget s1.h n with
 | none=>rfl
 | some o=>exact absurd (hw.lt _ _ hg) (by omega)
theorem InS.call {s1 s s':St} {M a:Nat} (x:InS s1 M a s) (y:Ext s s'):InS s1 M a s':=by
 refine⟨x.1.trans y,Nat.le_trans x.2.1 y.nx,fun n h1 h2=> ?_⟩
 have:=x.2.1
 rw[y.keep n (by omega)]
 exact x.2.2 n h1 h2
theorem InS.new {s1:St} {h:Heap} {m M a:Nat} (x:InS s1 M a ⟨h,m⟩) (n:Nat) (o:AObj) (h0:s1.nx≤n) (h1:a≤n) (h2:n<M):InS s1 M (n+1) ⟨(n,o)::h,m⟩:=by
 have:=x.2.1
 refine⟨x.1.consF (x.2.2 n h1 h2) h0 (by simp only at this;omega),this,fun k h3 h4=> ?_⟩
 simp only[hget_cons]
 rw[if_neg (by omega)]
 exact x.2.2 k (by omega) h4
theorem InS.look {s1 s:St} {M a:Nat} (x:InS s1 M a s):∀n,n<s1.nx→hget s.h n=hget s1.h n:=x.1.keep
def wkS:List (List UInt8):=[[97,98],[98],[49,54,35,102,102],[97,98,99,100,101],[120]]
theorem wk0:givesB (strH wkS) [101,113] (obBool true) [obInt 1,obReal 65536]=true:=by kernel_rfl
theorem wk1:givesB (strH wkS) [108,116] (obBool true) [obS 0 [97,98],obS 1 [98]]=true:=by kernel_rfl
theorem wk2:givesB (strH wkS) [97,110,100] (obInt 8) [obInt 12,obInt 10]=true:=by kernel_rfl
theorem wk3:givesB (strH wkS) [110,111,116] (obInt (-13)) [obInt 12]=true:=by kernel_rfl
theorem wk4:givesB (strH wkS) [98,105,116,115,104,105,102,116] (obInt 3) [obInt 7,obInt (-1)]=true:=by kernel_rfl
theorem wk5:givesB (strH wkS) [99,118,105] (obInt 255) [obS 2 [49,54,35,102,102]]=true:=by kernel_rfl
theorem wk6:givesB (strH wkS) [99,118,114] (obReal 196608) [obInt 3]=true:=by kernel_rfl
theorem wk7:givesB (strH wkS) [116,121,112,101] ⟨5,true,0,[110,97,109,101,116,121,112,101],0,0,0⟩ [⟨5,false,0,[120],0,0,0⟩]=true:=by kernel_rfl
theorem wk8:writesB (strH wkS) [99,118,115] [45,49,50] [obInt (-12),obS 3 [97,98,99,100,101]]=true:=by kernel_rfl
theorem wk9:writesB (strH wkS) [99,118,114,115] [70,70] [obInt 255,obInt 16,obS 3 [97,98,99,100,101]]=true:=by kernel_rfl
theorem wk10:failsB (strH wkS) [99,118,105] 22 [obS 4 [120]]=true:=by kernel_rfl
theorem wk11:failsB (strH wkS) [108,116] 22 [obS 0 [97,98],obInt 1]=true:=by kernel_rfl
set_option maxHeartbeats 4000000 in
theorem wakes14_tells (H:B.H_chaselaw14_wakes T) (hwf:st.Wf) (hpw:Pow st) (hbr:Bru st):Tells T st (.fn 300 [] []) [] (.bool true):=by
 refine tells_of H.e H.f rfl ?_
 have x0:=(Ext.refl hwf).consN (o:= .cells 9 false (strsA wkS)) (Nat.lt_succ_self st.nx)
 simp (disch:=omega) [B.chaselaw14_wakes,go_sem]
 refine(strings_res H.chaselaw14_strings x0.wf (l:=wkS) (.inr ⟨_,_,_,rfl,rd_all (ty:=9) (l:=false) (by simp[hget_cons]) rfl⟩) (by decide)).mono ?_
 rintro w s1 ⟨x1,v,u,rfl,hh,ho⟩
 have y1:=x0.trans x1
 have w1:=y1.wf
 have hS:HpS (strH wkS):=strH_S (by decide) (by decide)
 have hp1:=hpw.ext y1 hwf
 have hb1:=hbr.ext y1 hwf
 obtain⟨n,off,ob,hat⟩:=ho.acc w1
 obtain⟨a1,a2,l0,m0⟩:=hat 0 (obS 0 [97,98]) (by decide) rfl
 simp only[show ((0:Int)).toNat=0 from rfl,Nat.reduceMul,Nat.add_zero]at l0 m0
 obtain⟨a1,a2,l1,m1⟩:=hat 1 (obS 1 [98]) (by decide) rfl
 simp only[show ((1:Int)).toNat=1 from rfl,Nat.reduceMul,Nat.add_zero]at l1 m1
 obtain⟨a1,a2,l2,m2⟩:=hat 2 (obS 2 [49,54,35,102,102]) (by decide) rfl
 simp only[show ((2:Int)).toNat=2 from rfl,Nat.reduceMul,Nat.add_zero]at l2 m2
 obtain⟨a1,a2,l3,m3⟩:=hat 3 (obS 3 [97,98,99,100,101]) (by decide) rfl
 simp only[show ((3:Int)).toNat=3 from rfl,Nat.reduceMul,Nat.add_zero]at l3 m3
 obtain⟨a1,a2,l4,m4⟩:=hat 4 (obS 4 [120]) (by decide) rfl
 simp only[show ((4:Int)).toNat=4 from rfl,Nat.reduceMul,Nat.add_zero]at l4 m4
 clear hat
 simp (disch:=omega) [go_sem,hh.sc,RdS.sc ho]
 obtain⟨M,hM⟩:∃M,s1.nx+108=M:=⟨_,rfl⟩
 rw[hM]
 have i0:=InS.start w1 (M:=M) (by omega)
 refine(bool14_tells H.chaselaw14_b i0.1.wf true).use fun q1 e1=> ?_
 have i1:=i0.call e1
 have k1:=i1.look
 simp (disch:=omega) [go_sem,reI,wanted,B.zOb,↓PO_iaddr,a2,l0,m0,l1,m1,l2,m2,l3,m3,l4,m4,k1]
 refine(int14_tells H.chaselaw14_i i1.1.wf (1)).use fun q2 e2=> ?_
 have i2:=i1.call e2
 have k2:=i2.look
 simp (disch:=omega) [go_sem,reI,wanted,B.zOb,↓PO_iaddr,a2,l0,m0,l1,m1,l2,m2,l3,m3,l4,m4,k1,k2]
 refine(real14_tells H.chaselaw14_r i2.1.wf (65536)).use fun q3 e3=> ?_
 have i3:=i2.call e3
 have k3:=i3.look
 simp (disch:=omega) [go_sem,reI,wanted,B.zOb,↓PO_iaddr,a2,l0,m0,l1,m1,l2,m2,l3,m3,l4,m4,k1,k2,k3]
 have i4:=i3.new (s1.nx) (.cells 451 false (obsA [obInt 1,obReal 65536])) (by omega) (by omega) (by omega)
 have t0:=gives14_tells H.chaselaw14_gives i4.1.wf (RdO.made (m:=s1.nx) (ty:=451) (l:=[obInt 1,obReal 65536]) (by simp[hget_cons]) rfl) (hh.ext i4.1 w1) (by decide) hS (hp1.ext i4.1 w1) (hb1.ext i4.1 w1) [101,113] (obBool true)
 rw[wk0]at t0
 refine(t0).use fun q5 e5=> ?_
 have i5:=i4.call e5
 have k5:=i5.look
 simp (disch:=omega) [go_sem,reI,wanted,B.zOb,↓PO_iaddr,a2,l0,m0,l1,m1,l2,m2,l3,m3,l4,m4,k2,k3,k5]
 refine(bool14_tells H.chaselaw14_b i5.1.wf true).use fun q6 e6=> ?_
 have i6:=i5.call e6
 have k6:=i6.look
 simp (disch:=omega) [go_sem,reI,wanted,B.zOb,↓PO_iaddr,a2,l0,m0,l1,m1,l2,m2,l3,m3,l4,m4,k3,k5,k6]
 have i7:=i6.new (s1.nx+1) (.cells 451 false (obsA [obS 0 [97,98],obS 1 [98]])) (by omega) (by omega) (by omega)
 have t1:=gives14_tells H.chaselaw14_gives i7.1.wf (RdO.made (m:=s1.nx+1) (ty:=451) (l:=[obS 0 [97,98],obS 1 [98]]) (by simp[hget_cons]) rfl) (hh.ext i7.1 w1) (by decide) hS (hp1.ext i7.1 w1) (hb1.ext i7.1 w1) [108,116] (obBool true)
 rw[wk1]at t1
 refine(t1).use fun q8 e8=> ?_
 have i8:=i7.call e8
 have k8:=i8.look
 simp (disch:=omega) [go_sem,reI,wanted,B.zOb,↓PO_iaddr,a2,l0,m0,l1,m1,l2,m2,l3,m3,l4,m4,k5,k6,k8]
 refine(int14_tells H.chaselaw14_i i8.1.wf (8)).use fun q9 e9=> ?_
 have i9:=i8.call e9
 have k9:=i9.look
 simp (disch:=omega) [go_sem,reI,wanted,B.zOb,↓PO_iaddr,a2,l0,m0,l1,m1,l2,m2,l3,m3,l4,m4,k6,k8,k9]
 refine(int14_tells H.chaselaw14_i i9.1.wf (12)).use fun q10 e10=> ?_
 have i10:=i9.call e10
 have k10:=i10.look
 simp (disch:=omega) [go_sem,reI,wanted,B.zOb,↓PO_iaddr,a2,l0,m0,l1,m1,l2,m2,l3,m3,l4,m4,k8,k9,k10]
 refine(int14_tells H.chaselaw14_i i10.1.wf (10)).use fun q11 e11=> ?_
 have i11:=i10.call e11
 have k11:=i11.look
 simp (disch:=omega) [go_sem,reI,wanted,B.zOb,↓PO_iaddr,a2,l0,m0,l1,m1,l2,m2,l3,m3,l4,m4,k9,k10,k11]
 have i12:=i11.new (s1.nx+2) (.cells 451 false (obsA [obInt 12,obInt 10])) (by omega) (by omega) (by omega)
 have t2:=gives14_tells H.chaselaw14_gives i12.1.wf (RdO.made (m:=s1.nx+2) (ty:=451) (l:=[obInt 12,obInt 10]) (by simp[hget_cons]) rfl) (hh.ext i12.1 w1) (by decide) hS (hp1.ext i12.1 w1) (hb1.ext i12.1 w1) [97,110,100] (obInt 8)
 rw[wk2]at t2
 refine(t2).use fun q13 e13=> ?_
 have i13:=i12.call e13
 have k13:=i13.look
 simp (disch:=omega) [go_sem,reI,wanted,B.zOb,↓PO_iaddr,a2,l0,m0,l1,m1,l2,m2,l3,m3,l4,m4,k10,k11,k13]
 refine(int14_tells H.chaselaw14_i i13.1.wf (-13)).use fun q14 e14=> ?_
 have i14:=i13.call e14
 have k14:=i14.look
 simp (disch:=omega) [go_sem,reI,wanted,B.zOb,↓PO_iaddr,a2,l0,m0,l1,m1,l2,m2,l3,m3,l4,m4,k11,k13,k14]
 refine(int14_tells H.chaselaw14_i i14.1.wf (12)).use fun q15 e15=> ?_
 have i15:=i14.call e15
 have k15:=i15.look
 simp (disch:=omega) [go_sem,reI,wanted,B.zOb,↓PO_iaddr,a2,l0,m0,l1,m1,l2,m2,l3,m3,l4,m4,k13,k14,k15]
 have i16:=i15.new (s1.nx+3) (.cells 451 false (obsA [obInt 12])) (by omega) (by omega) (by omega)
 have t3:=gives14_tells H.chaselaw14_gives i16.1.wf (RdO.made (m:=s1.nx+3) (ty:=451) (l:=[obInt 12]) (by simp[hget_cons]) rfl) (hh.ext i16.1 w1) (by decide) hS (hp1.ext i16.1 w1) (hb1.ext i16.1 w1) [110,111,116] (obInt (-13))
 rw[wk3]at t3
 refine(t3).use fun q17 e17=> ?_
 have i17:=i16.call e17
 have k17:=i17.look
 simp (disch:=omega) [go_sem,reI,wanted,B.zOb,↓PO_iaddr,a2,l0,m0,l1,m1,l2,m2,l3,m3,l4,m4,k14,k15,k17]
 refine(int14_tells H.chaselaw14_i i17.1.wf (3)).use fun q18 e18=> ?_
 have i18:=i17.call e18
 have k18:=i18.look
 simp (disch:=omega) [go_sem,reI,wanted,B.zOb,↓PO_iaddr,a2,l0,m0,l1,m1,l2,m2,l3,m3,l4,m4,k15,k17,k18]
 refine(int14_tells H.chaselaw14_i i18.1.wf (7)).use fun q19 e19=> ?_
 have i19:=i18.call e19
 have k19:=i19.look
 simp (disch:=omega) [go_sem,reI,wanted,B.zOb,↓PO_iaddr,a2,l0,m0,l1,m1,l2,m2,l3,m3,l4,m4,k17,k18,k19]
 refine(int14_tells H.chaselaw14_i i19.1.wf (-1)).use fun q20 e20=> ?_
 have i20:=i19.call e20
 have k20:=i20.look
 simp (disch:=omega) [go_sem,reI,wanted,B.zOb,↓PO_iaddr,a2,l0,m0,l1,m1,l2,m2,l3,m3,l4,m4,k18,k19,k20]
 have i21:=i20.new (s1.nx+4) (.cells 451 false (obsA [obInt 7,obInt (-1)])) (by omega) (by omega) (by omega)
 have t4:=gives14_tells H.chaselaw14_gives i21.1.wf (RdO.made (m:=s1.nx+4) (ty:=451) (l:=[obInt 7,obInt (-1)]) (by simp[hget_cons]) rfl) (hh.ext i21.1 w1) (by decide) hS (hp1.ext i21.1 w1) (hb1.ext i21.1 w1) [98,105,116,115,104,105,102,116] (obInt 3)
 rw[wk4]at t4
 refine(t4).use fun q22 e22=> ?_
 have i22:=i21.call e22
 have k22:=i22.look
 simp (disch:=omega) [go_sem,reI,wanted,B.zOb,↓PO_iaddr,a2,l0,m0,l1,m1,l2,m2,l3,m3,l4,m4,k19,k20,k22]
 refine(int14_tells H.chaselaw14_i i22.1.wf (255)).use fun q23 e23=> ?_
 have i23:=i22.call e23
 have k23:=i23.look
 simp (disch:=omega) [go_sem,reI,wanted,B.zOb,↓PO_iaddr,a2,l0,m0,l1,m1,l2,m2,l3,m3,l4,m4,k20,k22,k23]
 have i24:=i23.new (s1.nx+5) (.cells 451 false (obsA [obS 2 [49,54,35,102,102]])) (by omega) (by omega) (by omega)
 have t5:=gives14_tells H.chaselaw14_gives i24.1.wf (RdO.made (m:=s1.nx+5) (ty:=451) (l:=[obS 2 [49,54,35,102,102]]) (by simp[hget_cons]) rfl) (hh.ext i24.1 w1) (by decide) hS (hp1.ext i24.1 w1) (hb1.ext i24.1 w1) [99,118,105] (obInt 255)
 rw[wk5]at t5
 refine(t5).use fun q25 e25=> ?_
 have i25:=i24.call e25
 have k25:=i25.look
 simp (disch:=omega) [go_sem,reI,wanted,B.zOb,↓PO_iaddr,a2,l0,m0,l1,m1,l2,m2,l3,m3,l4,m4,k22,k23,k25]
 refine(real14_tells H.chaselaw14_r i25.1.wf (196608)).use fun q26 e26=> ?_
 have i26:=i25.call e26
 have k26:=i26.look
 simp (disch:=omega) [go_sem,reI,wanted,B.zOb,↓PO_iaddr,a2,l0,m0,l1,m1,l2,m2,l3,m3,l4,m4,k23,k25,k26]
 refine(int14_tells H.chaselaw14_i i26.1.wf (3)).use fun q27 e27=> ?_
 have i27:=i26.call e27
 have k27:=i27.look
 simp (disch:=omega) [go_sem,reI,wanted,B.zOb,↓PO_iaddr,a2,l0,m0,l1,m1,l2,m2,l3,m3,l4,m4,k25,k26,k27]
 have i28:=i27.new (s1.nx+6) (.cells 451 false (obsA [obInt 3])) (by omega) (by omega) (by omega)
 have t6:=gives14_tells H.chaselaw14_gives i28.1.wf (RdO.made (m:=s1.nx+6) (ty:=451) (l:=[obInt 3]) (by simp[hget_cons]) rfl) (hh.ext i28.1 w1) (by decide) hS (hp1.ext i28.1 w1) (hb1.ext i28.1 w1) [99,118,114] (obReal 196608)
 rw[wk6]at t6
 refine(t6).use fun q29 e29=> ?_
 have i29:=i28.call e29
 have k29:=i29.look
 simp (disch:=omega) [go_sem,reI,wanted,B.zOb,↓PO_iaddr,a2,l0,m0,l1,m1,l2,m2,l3,m3,l4,m4,k26,k27,k29]
 have i30:=i29.new (s1.nx+7) (.cells 451 false (obsA [⟨5,false,0,[120],0,0,0⟩])) (by omega) (by omega) (by omega)
 have t7:=gives14_tells H.chaselaw14_gives i30.1.wf (RdO.made (m:=s1.nx+7) (ty:=451) (l:=[⟨5,false,0,[120],0,0,0⟩]) (by simp[hget_cons]) rfl) (hh.ext i30.1 w1) (by decide) hS (hp1.ext i30.1 w1) (hb1.ext i30.1 w1) [116,121,112,101] ⟨5,true,0,[110,97,109,101,116,121,112,101],0,0,0⟩
 rw[wk7]at t7
 refine(t7).use fun q31 e31=> ?_
 have i31:=i30.call e31
 have k31:=i31.look
 simp (disch:=omega) [go_sem,reI,wanted,B.zOb,↓PO_iaddr,a2,l0,m0,l1,m1,l2,m2,l3,m3,l4,m4,k27,k29,k31]
 refine(int14_tells H.chaselaw14_i i31.1.wf (-12)).use fun q32 e32=> ?_
 have i32:=i31.call e32
 have k32:=i32.look
 simp (disch:=omega) [go_sem,reI,wanted,B.zOb,↓PO_iaddr,a2,l0,m0,l1,m1,l2,m2,l3,m3,l4,m4,k29,k31,k32]
 have i33:=i32.new (s1.nx+8) (.cells 451 false (obsA [obInt (-12),obS 3 [97,98,99,100,101]])) (by omega) (by omega) (by omega)
 have t8:=writes14_tells H.chaselaw14_writes i33.1.wf (RdO.made (m:=s1.nx+8) (ty:=451) (l:=[obInt (-12),obS 3 [97,98,99,100,101]]) (by simp[hget_cons]) rfl) (hh.ext i33.1 w1) (by decide) (by simp) hS (hp1.ext i33.1 w1) (hb1.ext i33.1 w1) [99,118,115] [45,49,50]
 rw[wk8]at t8
 refine(t8).use fun q34 e34=> ?_
 have i34:=i33.call e34
 have k34:=i34.look
 simp (disch:=omega) [go_sem,reI,wanted,B.zOb,↓PO_iaddr,a2,l0,m0,l1,m1,l2,m2,l3,m3,l4,m4,k31,k32,k34]
 refine(int14_tells H.chaselaw14_i i34.1.wf (255)).use fun q35 e35=> ?_
 have i35:=i34.call e35
 have k35:=i35.look
 simp (disch:=omega) [go_sem,reI,wanted,B.zOb,↓PO_iaddr,a2,l0,m0,l1,m1,l2,m2,l3,m3,l4,m4,k32,k34,k35]
 refine(int14_tells H.chaselaw14_i i35.1.wf (16)).use fun q36 e36=> ?_
 have i36:=i35.call e36
 have k36:=i36.look
 simp (disch:=omega) [go_sem,reI,wanted,B.zOb,↓PO_iaddr,a2,l0,m0,l1,m1,l2,m2,l3,m3,l4,m4,k34,k35,k36]
 have i37:=i36.new (s1.nx+9) (.cells 451 false (obsA [obInt 255,obInt 16,obS 3 [97,98,99,100,101]])) (by omega) (by omega) (by omega)
 have t9:=writes14_tells H.chaselaw14_writes i37.1.wf (RdO.made (m:=s1.nx+9) (ty:=451) (l:=[obInt 255,obInt 16,obS 3 [97,98,99,100,101]]) (by simp[hget_cons]) rfl) (hh.ext i37.1 w1) (by decide) (by simp) hS (hp1.ext i37.1 w1) (hb1.ext i37.1 w1) [99,118,114,115] [70,70]
 rw[wk9]at t9
 refine(t9).use fun q38 e38=> ?_
 have i38:=i37.call e38
 have k38:=i38.look
 simp (disch:=omega) [go_sem,reI,wanted,B.zOb,↓PO_iaddr,a2,l0,m0,l1,m1,l2,m2,l3,m3,l4,m4,k35,k36,k38]
 have i39:=i38.new (s1.nx+10) (.cells 451 false (obsA [obS 4 [120]])) (by omega) (by omega) (by omega)
 have t10:=fails14_tells H.chaselaw14_fails i39.1.wf (RdO.made (m:=s1.nx+10) (ty:=451) (l:=[obS 4 [120]]) (by simp[hget_cons]) rfl) (hh.ext i39.1 w1) (by decide) (by decide) (strH_L _) hS (hp1.ext i39.1 w1) (hb1.ext i39.1 w1) [99,118,105] 22 (by decide)
 rw[wk10]at t10
 refine(t10).use fun q40 e40=> ?_
 have i40:=i39.call e40
 have k40:=i40.look
 simp (disch:=omega) [go_sem,reI,wanted,B.zOb,↓PO_iaddr,a2,l0,m0,l1,m1,l2,m2,l3,m3,l4,m4,k36,k38,k40]
 refine(int14_tells H.chaselaw14_i i40.1.wf (1)).use fun q41 e41=> ?_
 have i41:=i40.call e41
 have k41:=i41.look
 simp (disch:=omega) [go_sem,reI,wanted,B.zOb,↓PO_iaddr,a2,l0,m0,l1,m1,l2,m2,l3,m3,l4,m4,k38,k40,k41]
 have i42:=i41.new (s1.nx+11) (.cells 451 false (obsA [obS 0 [97,98],obInt 1])) (by omega) (by omega) (by omega)
 have t11:=fails14_tells H.chaselaw14_fails i42.1.wf (RdO.made (m:=s1.nx+11) (ty:=451) (l:=[obS 0 [97,98],obInt 1]) (by simp[hget_cons]) rfl) (hh.ext i42.1 w1) (by decide) (by decide) (strH_L _) hS (hp1.ext i42.1 w1) (hb1.ext i42.1 w1) [108,116] 22 (by decide)
 rw[wk11]at t11
 refine(t11).use fun q43 e43=> ?_
 have i43:=i42.call e43
 have k43:=i43.look
 simp (disch:=omega) [go_sem,reI,wanted,B.zOb,↓PO_iaddr,a2,l0,m0,l1,m1,l2,m2,l3,m3,l4,m4,k40,k41,k43]
 exact y1.trans i43.1
end Go.Ev

/- Plain law: bits. -/
namespace Go.Ev
open Go
theorem oneS_of {hp h':List Ce} {ops:List Ob} {op:List UInt8} {o:Ob} (h:doR ops hp op=(0,[o],h')):oneS hp ops op=(o,true):=by
 unfold oneS
 rw[h]
 rfl
end Go.Ev

/- Plain law: a number's text is read back by cvi, cvr. -/
namespace Go.Ev
open Go
def D40:List UInt8:=[48,49,50,51,52,53,54,55,56,57,48,49,50,51,52,53,54,55,56,57,48,49,50,51,52,53,54,55,56,57,48,49,50,51,52,53,54,55,56,57]
def opCvs:List UInt8:=[99,118,115]
def opCvi:List UInt8:=[99,118,105]
def opCvr:List UInt8:=[99,118,114]
def obL (n:Nat):Ob:=⟨6,false,0,[],0,0,n⟩
def hpT (t:List UInt8):List Ce:=[ceS (rep D40 0 t)]
theorem cvs_of {o:Ob} {t:List UInt8} (ht:textE [ceS D40] o=t) (hl:t.length≤40):doR [o,obS 0 D40] [ceS D40] opCvs=(0,[obL t.length],hpT t):=by
 show cvsR [o,obS 0 D40] [ceS D40]=_
 unfold cvsR
 rw[if_neg (by simp[operE,allowed,allowB,obS])]
 rw[show opAt [o,obS 0 D40] 2 0=o from rfl,show opAt [o,obS 0 D40] 2 1=obS 0 D40 from rfl,ht]
 have e1:intervalE (obS 0 D40) 0 t.length=(obL t.length,0):=by
  unfold intervalE
  rw[if_pos (by kernel_rfl),if_pos (.inl rfl),if_neg (by simp[obS,D40];omega)]
  rfl
 have e2:putE [ceS D40] (obS 0 D40) 0 t=0:=by
  unfold putE
  rw[if_pos (by kernel_rfl)]
  unfold roomE
  rw[if_neg (by simp[obS,D40];omega)]
 unfold putR
 rw[e1,e2]
 rw[if_neg (by simp),if_neg (by simp),if_neg (by simp[resE])]
 rfl
theorem rep_drop (t:List UInt8):(rep D40 0 t).drop t.length=D40.drop t.length:=by
 simp[rep]
theorem rep_take (t:List UInt8):(rep D40 0 t).take t.length=t:=by
 simp[rep]
theorem rep40 {t:List UInt8} (h:t.length≤40):(rep D40 0 t).length=40:=by
 rw[rep_len (by simp[D40];omega)];rfl
theorem checkL {n:Nat} (h:n≤40):checkB (obL n)=true:=by
 have hn:(n:Int)≤1000:=by omega
 simp[checkB,obL,numK,namK,refK,longK,kdOf,kdTab]
 omega
theorem bytes_of {t:List UInt8} (hl:t.length≤40):bytesE (hpT t) (obL t.length)=(t,0):=by
 have hf:fitsB (hpT t) (obL t.length)=true:=by
  unfold fitsB
  rw[checkL hl]
  have:=rep40 hl
  simp[ceAt,hpT,obL,ckOf,ceS,ceLen,this]
  omega
 unfold bytesE viewE
 rw[if_pos hf]
 simp[obL,ceAt,hpT,subB,ceS,rep_take]
theorem num_of {t:List UInt8} (hl:t.length≤40) {k n:Int} (h:numT t=(k,n,0)):numO (hpT t) (obL t.length)=if k=2 then madeO (obReal n)else madeO (obInt n):=by
 unfold numO
 rw[if_pos (show (obL t.length).k=6 from rfl),bytes_of hl]
 simp[h]
theorem numT_of {t:List UInt8} {k n:Int} (hk:k≠3) (h:wordT t=(k,n,[],0)):numT t=(k,n,0):=by
 unfold wordT at h
 split at h
 ·injection h with h1 h2;injection h2 with h2 h3;injection h3 with h3 h4;cases h4
 ·split at h
  ·simp at h
   obtain⟨h1,h2,h3⟩:=h
   rw[←h1,←h2,←h3]
  ·split at h
   ·injection h with h1 h2;injection h2 with h2 h3;injection h3 with h3 h4;cases h4
   ·injection h with h1 h2;exact absurd h1.symm hk
theorem made_int {n:Int} (h0: -2147483648≤n) (h1:n≤2147483647):checkB (obInt n)=true:=by
 simp[checkB,obInt,numK,namK,refK,kdOf,kdTab]
 omega
theorem made_real {n:Int} (h0: -2147483648≤n) (h1:n≤2147483647):checkB (obReal n)=true:=by
 simp[checkB,obReal,numK,namK,refK,kdOf,kdTab]
 omega
theorem oneR_of {r:Ob} (hk:r.k=6) (F:Ob→Ob×Int) {x:Ob} (h:F r=(x,0)):oneR [r] 5 F=(0,[x]):=by
 unfold oneR
 rw[if_neg (by simp[operE,allowed,allowB,hk]),show opAt [r] 1 0=r from rfl,h]
 rfl
theorem cvi_of {t:List UInt8} (hl:t.length≤40) {n:Int} (h0: -2147483648≤n) (h1:n≤2147483647) (h:numT t=(1,n,0)):oneS (hpT t) [obL t.length] opCvi=(obInt n,true):=by
 refine oneS_of (h':=hpT t) ?_
 show r23 (oneR [obL t.length] 5 (convF (hpT t) toIntE)) (hpT t)=_
 have hm:madeO (obInt n)=(obInt n,0):=by unfold madeO;rw[if_pos (made_int h0 h1)]
 rw[oneR_of rfl (convF (hpT t) toIntE) (x:=obInt n)]
 ·rfl
 ·unfold convF
  rw[num_of hl h,if_neg (show¬(1:Int)=2 by decide),hm,if_pos rfl]
  unfold toIntE
  have:numE (obInt n)=0:=by unfold numE;rw[if_pos (made_int h0 h1)];rfl
  rw[if_pos this,show valO (obInt n)=n*65536 from rfl,Int.mul_tdiv_cancel _ (by decide),hm]
theorem cvr_of {t:List UInt8} (hl:t.length≤40) {n:Int} (h0: -2147483648≤n) (h1:n≤2147483647) (h:numT t=(2,n,0)):oneS (hpT t) [obL t.length] opCvr=(obReal n,true):=by
 refine oneS_of (h':=hpT t) ?_
 show r23 (oneR [obL t.length] 5 (convF (hpT t) toRealE)) (hpT t)=_
 have hm:madeO (obReal n)=(obReal n,0):=by unfold madeO;rw[if_pos (made_real h0 h1)]
 rw[oneR_of rfl (convF (hpT t) toRealE) (x:=obReal n)]
 ·rfl
 ·unfold convF
  rw[num_of hl h,if_pos (show (2:Int)=2 from rfl),hm,if_pos rfl]
  unfold toRealE
  have:numE (obReal n)=0:=by unfold numE;rw[if_pos (made_real h0 h1)];rfl
  rw[if_pos this,show valO (obReal n)=n from rfl,if_pos (by omega),hm]
structure BackLaw (o:Ob) (t:List UInt8):Prop where
 l:t.length≤40
 s:doR [o,obS 0 D40] [ceS D40] opCvs=(0,[obL t.length],hpT t)
 i:o.k=3→oneS (hpT t) [obL t.length] opCvi=(o,true)
 r:o.k=4→oneS (hpT t) [obL t.length] opCvr=(o,true)
theorem back_int {n:Int} (h0: -2147483648≤n) (h1:n≤2147483647):BackLaw (obInt n) (Lib.itoa n):=by
 obtain⟨b1,b2,b3,b4⟩:=itoa_back h0 h1
 have hl:(Lib.itoa n).length≤40:=by omega
 refine⟨hl,cvs_of ?_ hl,fun _=>cvi_of hl h0 h1 (numT_of (by decide) b1),fun h=>by cases h⟩
 unfold textE
 rw[if_pos (by unfold fitsB;rw[made_int h0 h1];rfl)]
 rfl
theorem back_real {n:Int} (h0: -2147483648≤n) (h1:n≤2147483647):BackLaw (obReal n) (printS n):=by
 obtain⟨b1,b2,b3⟩:=print_back h0 (by omega)
 have hl:(printS n).length≤40:=by omega
 refine⟨hl,cvs_of ?_ hl,(fun h=>by cases h),fun _=>cvr_of hl h0 h1 (numT_of (by decide) b1)⟩
 unfold textE
 rw[if_pos (by unfold fitsB;rw[made_real h0 h1];rfl)]
 rfl
end Go.Ev

/- LogicBack told: one number. -/
namespace Go.Ev
open Go
variable {T : Tab} {st st' : St}
theorem RdS.consF {es:Nat} {h:Heap} {v:AV} {k n:Nat} {cs:List AV} {o:AObj} (a:RdS es h v k cs) (hf:hget h n=none):RdS es ((n,o)::h) v k cs:=by
 obtain⟨h0,⟨h1,h2⟩ | ⟨m,off,cp,h1,h2,⟨p,h3,h3'⟩,h4⟩⟩:=a
 ·exact⟨h0,.inl ⟨h1,h2⟩⟩
 ·have hne:¬n=m:=by rintro rfl;rw[hf]at h3;cases h3
  have e:hget ((n,o)::h) m=hget h m:=by rw[hget_cons,if_neg hne]
  refine⟨h0,.inr ⟨m,off,cp,h1,h2,⟨p,by rw[e,h3],h3'⟩,?_⟩⟩
  unfold rdCells at h4⊢
  rw[e]
  exact h4
theorem RdO.consF {h:Heap} {v:AV} {l:List Ob} {n:Nat} {o:AObj} (a:RdO h v l) (hf:hget h n=none):RdO ((n,o)::h) v l:=RdS.consF a hf
theorem CeR.consF {h:Heap} {c:Ce} {cs:List AV} {n:Nat} {o:AObj} (a:CeR h c cs) (hf:hget h n=none):CeR ((n,o)::h) c cs:=by
 obtain⟨p,q,r,h0,h1,h2,h3⟩:=a
 exact⟨p,q,r,h0,h1.consF hf,h2.consF hf,h3.consF hf⟩
theorem CesR.consF {h:Heap} {n:Nat} {o:AObj} (hf:hget h n=none):∀{l:List Ce} {cs:List AV},CesR h l cs→CesR ((n,o)::h) l cs
 | [],_,a=>a
 | c::l,_,⟨y,r,e,h1,h2⟩=>⟨y,r,e,h1.consF hf,CesR.consF hf h2⟩
theorem HpR.consF {h:Heap} {v:AV} {l:List Ce} {n:Nat} {o:AObj} (a:HpR h v l) (hf:hget h n=none):HpR ((n,o)::h) v l:=by
 obtain⟨cs,h1,h2⟩:=a
 exact⟨cs,CesR.consF hf h1,h2.consF hf⟩
theorem zSt_set' (v w:AV):(B.z457.set 2 w).set 0 v=v:: .nilslice::w::zRest:=rfl
set_option maxHeartbeats 4000000 in
theorem back_step (H:B.H_chaselaw14_LogicBack T) {st1:St} (hw:st1.Wf) (hpw:Pow st1) (hbr:Bru st1) {o:Ob} {t:List UInt8} (law:BackLaw o t) (hk:o.k=3∨o.k=4) {vh vl:AV} (hh:HpR st1.h vh [ceS D40]) (ho:RdO st1.h vl [obS 0 D40]) {cs:List AV} {i:Nat} (hi:i<2) (hcs:(cs.drop (i*7)).take 7=o.A) (hlen:cs.length=14) {e:Env}
  (g3:eget e 3=vh) (g4:eget e 4=vl) (g25:eget e 25= .agg cs) (g26:eget e 26= .int .i64 i) {Q:Ex→Env→St→Prop}
  (K:∀e' s',Ext st1 s'→eget e' 3=vh→eget e' 4=vl→eget e' 25= .agg cs→eget e' 26= .int .i64 ((i:Int)+1)→Res (run T (.loop B.chaselaw14_LogicBack_l0) e' s') Q):
  Res (run T (.loop B.chaselaw14_LogicBack_l0) e st1) Q:=by
 have hi2:(i:Int)<2:=by omega
 have hl2:¬14<i*7+7:=by omega
 have hl3:i*7+7≤14:=by omega
 obtain⟨n,off,ob,hat⟩:=ho.acc hw
 obtain⟨a1,a2,a3,a4⟩:=hat 0 (obS 0 D40) (by decide) rfl
 simp only[Int.toNat_zero,Nat.zero_mul,Nat.add_zero]at a3 a4
 clear hat
 rcases hh.form hw with ⟨_,e2'⟩ | ⟨n2,off2,cp2,ob2,rfl,_⟩
 ·cases e2'
 have sh:=hh.sc
 have sl:=RdS.sc ho
 have y0:Ext st1 ⟨(st1.nx,.cells 451 true o.A)::st1.h,st1.nx+1⟩:=(Ext.refl hw).consN (Nat.lt_succ_self _)
 rw[run_loop]
 have d1:¬st1.nx=n:=by omega
 have d2:¬st1.nx+1=n:=by omega
 simp (disch:=omega) [B.chaselaw14_LogicBack_l0,go_sem,B.zOb,↓PO_iaddr,g3,g4,g25,g26,hi2,hlen,hcs,hl2,hl3,a2,a3,a4,d1,d2,sh,sl,zSt_set',zSt_len]
 have i0:=InS.start y0.wf (M:=st1.nx+1+14) (by simp)
 have i1:=i0.new (st1.nx+1) (.cells 451 false (obsA [o,obS 0 D40])) (by simp) (by simp) (by omega)
 have x1:=y0.trans i1.1
 refine(do_res H.logic_Do x1.wf zRest_ok (v0:= .slice (st1.nx+1) 0 2 (.known 2)) (ops:=[o,obS 0 D40]) (RdO.made (m:=st1.nx+1) (ty:=451) (l:=[o,obS 0 D40]) (by simp[hget_cons]) rfl) (hh.ext x1 hw) (by simp) ⟨by simp,by simp[ceS,D40]⟩ (hpw.ext x1 hw) (hbr.ext x1 hw) opCvs).mono ?_
 rintro w s1 ⟨z1,ha⟩
 rw[law.s]at ha
 obtain⟨X,e',rfl,hX,hXs,hXt,hXz⟩:=ha.shape zRest_ok rfl rfl
 rcases ha with ⟨h1,_⟩ | ⟨_,v',u',h2,h3,h4⟩
 ·exact absurd rfl h1
 injection h2 with h2
 injection h2 with h2 h5
 injection h5 with h5
 injection h5 with h6 h7
 injection h2 with h2
 subst h7 h2
 simp only at h3 h4
 have i2:=i1.call z1
 have hl:=h3.lenLV
 have hl':lenLV u'=some (.int .i64 1):=h4.lenLV
 have sv:=RdS.sc h3
 have su:=h4.sc
 simp (disch:=omega) [go_sem,reI,wanted,↓PO_lenL,↓PO_iaddr,hX,hXs,hXt,hXz,hl,zSt_len,zRest_ok.len,zRest_ok.take]
 have f2:=i2.2.2 (st1.nx+1+1) (by omega) (by omega)
 have i3:=i2.new (st1.nx+1+1) (.cells 457 true (v':: .nilslice::u'::zRest)) (by simp) (by omega) (by omega)
 have n3:=i3.2.1
 have y3:=y0.trans i3.1
 simp only at n3
 have r3:=h3.consF (o:= .cells 457 true (v':: .nilslice::u'::zRest)) f2
 have p4:=h4.consF (o:= .cells 457 true (v':: .nilslice::u'::zRest)) f2
 clear h3 h4 sv su
 obtain⟨n3',off3,ob3,hat⟩:=RdO.acc (st:=⟨(st1.nx+1+1,.cells 457 true (v':: .nilslice::u'::zRest))::s1.h,s1.nx⟩) r3 y3.wf
 obtain⟨b1,b2,b3,b4⟩:=hat 0 (obL t.length) (by decide) rfl
 simp only[Int.toNat_zero,Nat.zero_mul,Nat.add_zero]at b1 b2 b3 b4
 clear hat
 have q6:hget ((st1.nx+1+1,AObj.cells 457 true (v':: .nilslice::u'::zRest))::s1.h) st1.nx=some (.cells 451 true o.A):=by
  have:=i3.look st1.nx (by simp)
  simp only at this
  rw[this]
  simp[hget_cons]
 have q7:hget ((st1.nx+1+1,AObj.cells 457 true (v':: .nilslice::u'::zRest))::s1.h) (st1.nx+1+1)=some (.cells 457 true (v':: .nilslice::u'::zRest)):=by simp[hget_cons]
 have qn:hget ((st1.nx+1+1,AObj.cells 457 true (v':: .nilslice::u'::zRest))::s1.h) n=some ob:=by
  have:=y3.keep n a1
  simp only at this
  rw[this,a2]
 clear i2 f2 z1 i3
 generalize (st1.nx+1+1,AObj.cells 457 true (v':: .nilslice::u'::zRest))::s1.h=S3 at*
 simp (disch:=omega) [go_sem,reI,wanted,↓PO_iaddr,b2,b3,b4,q7,B.zOb,hX,hXs,hXt,hXz,zSt_len,zRest_ok.len,zRest_ok.take]
 have j0:=InS.start y3.wf (M:=s1.nx+14) (by simp)
 simp only at j0
 have j1:=j0.new s1.nx (.cells 451 false (obsA [obL t.length])) (by simp) (by simp) (by omega)
 have x2:=y3.trans j1.1
 have hS:HpS (hpT t):=⟨by simp[hpT],by have:=rep40 law.l;simp[hpT,ceS,this]⟩
 have t2:=one14_tells H.chaselaw14_one x2.wf (vl:= .slice s1.nx 0 1 (.known 1)) (ops:=[obL t.length]) (RdO.made (m:=s1.nx) (ty:=451) (l:=[obL t.length]) (by simp[hget_cons]) rfl) (HpR.ext (st:=⟨S3,s1.nx⟩) p4 j1.1 y3.wf) (by simp) hS (hpw.ext x2 hw) (hbr.ext x2 hw) opCvi
 obtain⟨p,hp⟩:∃p,oneS (hpT t) [obL t.length] opCvi=p:=⟨_,rfl⟩
 rw[hp]at t2
 refine t2.use fun s2 x2=> ?_
 have j2:=j1.call x2
 have k2:=j2.look
 have n2':=j2.2.1
 have f3:=j2.2.2 (s1.nx+1) (by omega) (by omega)
 simp only at k2 n2'
 have j3:=j2.new (s1.nx+1) (.cells 451 true p.1.A) (by simp) (by simp) (by omega)
 have y4:=y3.trans j3.1
 obtain⟨m4,off4,ob4,hat⟩:=HpR.acc (st:=⟨S3,s1.nx⟩) p4 y3.wf
 obtain⟨c1,c2,c3,X4,c4,c5⟩:=hat 0 (ceS (rep D40 0 t)) (by decide) rfl
 clear hat
 obtain⟨pa,pb,pc,rfl,_⟩:=c5.row
 obtain⟨m5,off5,ob5,hat⟩:=hh.acc hw
 obtain⟨e1,e2,e3,X5,e4,e5⟩:=hat 0 (ceS D40) (by decide) rfl
 clear hat
 obtain⟨pa',pb',pc',rfl,_⟩:=e5.row
 simp only[Int.toNat_zero,Nat.zero_mul,Nat.add_zero]at c3 c4 e3 e4
 have c6:=rdOb_one c4 (i:=1) (by omega)
 have e6:=rdOb_one e4 (i:=1) (by omega)
 have b6:=rdOb_one b4 (i:=6) (by omega)
 simp only[Ob.A,obL,List.getElem?_cons_zero,List.getElem?_cons_succ,ceS]at b6 c6 e6
 simp only[List.length_singleton]at e3
 simp only at c1 c2
 have ky:=y3.keep
 simp only at ky
 have g5:hget S3 m5=some ob5:=by rw[ky m5 e1,e2]
 have g1:¬s1.nx+1=st1.nx:=by omega
 have g2:¬s1.nx+1=st1.nx+1+1:=by omega
 have g2':¬s1.nx=st1.nx+1:=by omega
 have g3':¬s1.nx+1=n3':=by omega
 have g4':¬s1.nx+1=m4:=by omega
 have g5':¬s1.nx+1=m5:=by omega
 have q6':=rdOb_one (show rdOb (.cells 451 true o.A) 0 7=some o.A from rfl) (i:=0) (by decide)
 have hlr:=rep40 law.l
 have hd:=rep_drop t
 have hll:(t.length:Int)≤40:=by have:=law.l;omega
 have h40:¬(40:Int)<t.length:=by omega
 have hl0:¬(t.length:Int)<0:=by omega
 have eqO:=eqOb o o
 simp only[ksOb,Ob.A,decide_true]at eqO
 have hll2:t.length≤40:=law.l
 have hs1:asubS (rep D40 0 t) (some (.int .i64 (t.length:Int))) none=some (.str (D40.drop t.length)):=by rw[asubS_from (by omega) (by omega),Int.toNat_natCast,hd]
 have hs2:asubS D40 (some (.int .i64 (t.length:Int))) none=some (.str (D40.drop t.length)):=by rw[asubS_from (by omega) (by simp[D40];omega),Int.toNat_natCast]
 have y5:=y4.upN (m:=s2.nx+45) (by simp)
 rcases hk with hk | hk
 ·have hk4:¬o.k=4:=by omega
  have hp2:p=(o,true):=by rw[←hp];exact law.i hk
  subst hp2
  simp (disch:=omega) [go_sem,reI,wanted,B.zOb,↓PO_iaddr,↓PO_lenL,hX,hXs,hXt,hXz,hl',k2,q6,q7,g1,g2,g2',g3',g4',g5',hk4,eqO,b2,b3,b4,b6,c2,c3,c6,g5,e3,e6,h40,hl0,hlr,hs1,hs2,seq8_dec]
  exact K _ _ y5 (by simp[go_sem]) (by simp[go_sem]) (by simp[go_sem]) (by simp[go_sem])
 ·simp (disch:=omega) [go_sem,reI,wanted,B.zOb,↓PO_iaddr,↓PO_lenL,hX,hXs,hXt,hXz,k2,q6,q7,g1,g2,g2',g3',g4',g5',eq_true hk,b2,b3,b4,c2]
  have w0:=InS.start y4.wf (M:=s2.nx+13) (by simp)
  simp only at w0
  have w1:=w0.new s2.nx (.cells 451 false (obsA [obL t.length])) (by simp) (by simp) (by omega)
  have x3:=y4.trans w1.1
  have t3:=one14_tells H.chaselaw14_one x3.wf (vl:= .slice s2.nx 0 1 (.known 1)) (ops:=[obL t.length]) (RdO.made (m:=s2.nx) (ty:=451) (l:=[obL t.length]) (by simp[hget_cons]) rfl) (HpR.ext (st:=⟨S3,s1.nx⟩) p4 (j3.1.trans w1.1) y3.wf) (by simp) hS (hpw.ext x3 hw) (hbr.ext x3 hw) opCvr
  rw[law.r hk]at t3
  refine t3.use fun s3 z3=> ?_
  have w2:=w1.call z3
  have k3:=w2.look
  have n4':=w2.2.1
  simp only at k3 n4'
  have y6:=Ext.setN (st:=st1) (h:=s3.h) (m:=s3.nx+45) (n:=s1.nx+1) (o:= .cells 451 true o.A) ((y4.trans w2.1).upN (by simp)) (by omega)
  simp (disch:=omega) [go_sem,reI,wanted,B.zOb,↓PO_iaddr,↓PO_lenL,hX,hXs,hXt,hXz,hl',k3,k2,q6,q7,g1,g2,g2',g3',g4',g5',eqO,b2,b3,b4,b6,c2,c3,c6,g5,e3,e6,h40,hl0,hlr,hs1,hs2,seq8_dec]
  exact K _ _ y6 (by simp[go_sem]) (by simp[go_sem]) (by simp[go_sem]) (by simp[go_sem])
end Go.Ev

/- LogicBack told. -/
namespace Go.Ev
open Go
variable {T : Tab} {st st' : St}
set_option maxHeartbeats 4000000 in
theorem back14_res (H:B.H_chaselaw14_LogicBack T) (hwf:st.Wf) (hpw:Pow st) (hbr:Bru st) (m:Int) (m0: -2147483648≤m) (m1:m≤2147483647):
  CRes (call T (.fn 294 [] []) [.int .i32 m] st) fun v s=>v= .bool true∧Ext st s:=by
 refine call_res H.e H.f rfl ?_
 simp (disch:=omega) [B.chaselaw14_LogicBack,go_sem]
 refine(wakes14_tells H.chaselaw14_wakes hwf hpw hbr).use fun s1 x1=> ?_
 simp (disch:=omega) [go_sem]
 have x2:=x1.consN (o:= .cells 9 false (strsA [D40])) (Nat.lt_succ_self s1.nx)
 refine(strings_res H.chaselaw14_strings x2.wf (l:=[D40]) (.inr ⟨_,_,_,rfl,rd_all (ty:=9) (l:=false) (by simp[hget_cons]) rfl⟩) (by decide)).mono ?_
 rintro w s2 ⟨x3,v,u,rfl,hh,ho⟩
 have y2:=x2.trans x3
 simp (disch:=omega) [go_sem,hh.sc,RdS.sc ho]
 refine(int14_tells H.chaselaw14_i y2.wf m).use fun s3 z3=> ?_
 have y3:=y2.trans z3
 simp (disch:=omega) [go_sem,hh.sc,RdS.sc ho]
 refine(real14_tells H.chaselaw14_r y3.wf m).use fun s4 z4=> ?_
 have y4:=y3.trans z4
 have z24:=z3.trans z4
 have hh4:HpR s4.h v [ceS D40]:=hh.ext z24 y2.wf
 have ho4:RdO s4.h u [obS 0 D40]:=ho.ext z24 y2.wf
 simp (disch:=omega) [go_sem,hh.sc,RdS.sc ho]
 refine back_step H y4.wf (hpw.ext y4 hwf) (hbr.ext y4 hwf) (back_int m0 m1) (.inl rfl) hh4 ho4 (i:=0) (by decide) rfl rfl (by simp[go_sem]) (by simp[go_sem]) (by simp[go_sem];rfl) (by simp[go_sem]) fun e5 s5 x5 g3 g4 g25 g26=> ?_
 have y5:=y4.trans x5
 refine back_step H y5.wf (hpw.ext y5 hwf) (hbr.ext y5 hwf) (back_real m0 m1) (.inr rfl) (hh4.ext x5 y4.wf) (ho4.ext x5 y4.wf) (i:=1) (by decide) rfl rfl g3 g4 g25 g26 fun e6 s6 x6 g3 g4 g25 g26=> ?_
 have y6:=y5.trans x6
 rw[run_loop]
 simp (disch:=omega) [B.chaselaw14_LogicBack_l0,go_sem,g3,g4,g25,g26]
 exact y6.dropLoc
end Go.Ev

/- A table of the library beside what the arguments named. -/
namespace Go.Ev
open Go Go.RowKit Go.ChangeShapes Go.WideShapes Go.Deep Go.Joins
theorem sr_add {X:Cx} {w:World} {N:Nu} {st:St} {o:AObj} {a:Addr} (h:SR chkD X N st w) (how:∀b,¬Own N st.h b) (ho:o.own=false) (hobj:ObjR chkD X (N.add st.nx a 0) w st.nx o):
  SR chkD X (N.add st.nx a 0) ⟨(st.nx,o)::st.h,st.nx+1⟩ w∧(∀b,¬Own (N.add st.nx a 0) ((st.nx,o)::st.h) b)∧N.Le (N.add st.nx a 0):=by
 have hle:N.Le (N.add st.nx a 0):=Nu.le_add (h.fresh _ (Nat.le_refl _))
 have hold:∀m,m≠st.nx→(N.add st.nx a 0).ρ m=N.ρ m:=fun m hm=>by simp[Nu.add,hm]
 have hown:∀b,¬Own (N.add st.nx a 0) ((st.nx,o)::st.h) b:=by
  rintro b ⟨n,p,x,h1,h2,h3,h4⟩
  by_cases e:n=st.nx
  ·subst e
   rw[hget_cons,if_pos rfl]at h1
   injection h1 with h1
   subst h1
   rw[ho]at h2
   cases h2
  ·rw[hget_cons,if_neg (fun x=>e x.symm)]at h1
   exact how b ⟨n,p,x,h1,h2,by rw[←hold n e];exact h3,h4⟩
 refine⟨⟨⟨?_,?_⟩,?_⟩,hown,hle⟩
 ·intro n p h1
  by_cases e:n=st.nx
  ·subst e
   rw[hget_cons,if_pos rfl]at h1
   injection h1 with h1
   subst h1
   exact hobj
  ·rw[hget_cons,if_neg (fun x=>e x.symm)]at h1
   exact ObjR.keep hle (Nat.le_refl _) (fun _ _=>rfl) (h.hr.objs n p h1)
 ·intro n m o1 p1 x y h1 h2 h3 h4 h5 h6
  exact absurd ⟨n,o1,x,h1,h3,h4,rfl⟩ (hown x.block)
 ·intro n hn
  rw[hold n (by simp only at hn;omega)]
  exact h.fresh n (by simp only at hn;omega)
theorem objR_pow {X:Cx} {w:World} {N:Nu} {n k:Nat} {name:String} (hname:X.P.globalNamed name=some (X.γ k)) (h:Lib.TabIs X.P w name .u64 Lib.pow10Tab):ObjR chkD X (N.add n ⟨X.γ k,0,none⟩ 0) w n (.glob k powAV):=by
 unfold Lib.TabIs World.var? at h
 rw[hname]at h
 simp only[Option.bind_some]at h
 split at h
 ·rename_i cs t fz hc
  refine⟨cs,t,fz,by simp[Nu.add],hc,?_⟩
  injection h with h
  rw[h]
  exact vrs_ints _
 ·cases h
theorem pow_glob (n m:Nat) (h:Heap):Pow ⟨(n,.glob B.gPow10 powAV)::h,m⟩:=⟨n,powAV,by simp[hget],by simp[powAV,B.av64]⟩
theorem sr_pow {X:Cx} {w:World} {N:Nu} {st:St} {k:Nat} {name:String} (hname:X.P.globalNamed name=some (X.γ k)) (h:Lib.TabIs X.P w name .u64 Lib.pow10Tab) (hr:SR chkD X N st w) (how:∀b,¬Own N st.h b):
  ∃N':Nu,SR chkD X N' ⟨(st.nx,.glob k powAV)::st.h,st.nx+1⟩ w∧(∀b,¬Own N' ((st.nx,.glob k powAV)::st.h) b)∧N.Le N':=
 ⟨_,sr_add hr how rfl (objR_pow hname h)⟩
theorem wf_add {st:St} {o:AObj} (h:st.Wf) (hp:0<st.nx):St.Wf ⟨(st.nx,o)::st.h,st.nx+1⟩:=(Ext.new h o).wf
end Go.Ev

/- Tables of the library among the objects. -/
namespace Go.Ev
open Go Go.RowKit Go.ChangeShapes Go.WideShapes Go.Deep Go.Joins
def tabAV (kd:IntKind) (zs:List Int):List AV:=zs.map fun z=> .int kd z
theorem vrs_intsK {X:Cx} {N:Nu} (kd:IntKind):∀zs:List Int,VRs X N (zs.map fun z=> .int kd z) (zs.map fun z=>Value.int kd z)
 | []=>rfl
 | z::zs=>⟨_,_,rfl,rfl,vrs_intsK kd zs⟩
theorem objR_tab {X:Cx} {w:World} {N:Nu} {n k:Nat} {kd:IntKind} {zs:List Int} {name:String} (hname:X.P.globalNamed name=some (X.γ k)) (h:Lib.TabIs X.P w name kd zs):ObjR chkD X (N.add n ⟨X.γ k,0,none⟩ 0) w n (.glob k (tabAV kd zs)):=by
 unfold Lib.TabIs World.var? at h
 rw[hname]at h
 simp only[Option.bind_some]at h
 split at h
 ·rename_i cs t fz hc
  refine⟨cs,t,fz,by simp[Nu.add],hc,?_⟩
  injection h with h
  rw[h]
  exact vrs_intsK kd _
 ·cases h
theorem sr_tab {X:Cx} {w:World} {N:Nu} {st:St} {k:Nat} {kd:IntKind} {zs:List Int} {name:String} (hname:X.P.globalNamed name=some (X.γ k)) (h:Lib.TabIs X.P w name kd zs) (hr:SR chkD X N st w) (how:∀b,¬Own N st.h b):
  ∃N':Nu,SR chkD X N' ⟨(st.nx,.glob k (tabAV kd zs))::st.h,st.nx+1⟩ w∧(∀b,¬Own N' ((st.nx,.glob k (tabAV kd zs))::st.h) b)∧N.Le N':=
 ⟨_,sr_add hr how rfl (objR_tab hname h)⟩
def deB64z:List Int:=[0,1,56,2,57,49,28,3,61,58,42,50,38,29,17,4,62,47,59,36,45,43,51,22,53,39,33,30,24,18,12,5,63,55,48,27,60,41,37,16,46,35,44,21,52,32,23,11,54,26,40,15,34,20,31,10,25,14,19,9,13,8,7,6]
theorem tab2_of_laid {P:Program} {W:World} {x:String×DataW Unit} {rest:List (String×DataW Unit)} {name:String} {kd:IntKind} {zs:List Int} {g:Nat} {t e:TypeId} {n:Nat}
  (hg:P.globalNamed name=some g) (hty:(P.globals[g]?).map (·.type)=some t) (ht:P.underlying t=some (.array n e)) (he:P.underlying e=some (.int kd)) (hce:P.cellsOf e=1) (hct:P.cellsOf t=n)
  (h:laidMet P (x::(name,Lib.tabData kd zs)::rest) W):Lib.TabIs P W name kd zs:=Lib.tabIs_of_head hg hty ht he hce hct (laidMet.tail h)
theorem tab3_of_laid {P:Program} {W:World} {x y:String×DataW Unit} {rest:List (String×DataW Unit)} {name:String} {kd:IntKind} {zs:List Int} {g:Nat} {t e:TypeId} {n:Nat}
  (hg:P.globalNamed name=some g) (hty:(P.globals[g]?).map (·.type)=some t) (ht:P.underlying t=some (.array n e)) (he:P.underlying e=some (.int kd)) (hce:P.cellsOf e=1) (hct:P.cellsOf t=n)
  (h:laidMet P (x::y::(name,Lib.tabData kd zs)::rest) W):Lib.TabIs P W name kd zs:=Lib.tabIs_of_head hg hty ht he hce hct (laidMet.tail (laidMet.tail h))
def st14:St:=⟨[(7,.glob B.gPow10 powAV),(6,.glob 6 deB64)],8⟩
theorem st14_wf:st14.Wf:=wf_add (st:=⟨[(6,.glob 6 deB64)],7⟩) (wf_add (st:=⟨[],6⟩) (stNone_wf 6) (by decide)) (by decide)
theorem st14_pow:Pow st14:=pow_glob _ _ _
theorem st14_bru:Bru st14:=rfl
theorem sr14 {X:Cx} {w:World} (h1:X.P.globalNamed "math/bits.deBruijn64tab" =some (X.γ 6)) (h2:X.P.globalNamed "internal/strconv.uint64pow10" =some (X.γ B.gPow10)) (t1:Lib.TabIs X.P w "math/bits.deBruijn64tab" .u8 deB64z) (t2:Lib.TabIs X.P w "internal/strconv.uint64pow10" .u64 Lib.pow10Tab):
  ∃N:Nu,SR chkD X N st14 w∧∀b,¬Own N st14.h b:=by
 obtain⟨N1,r1,o1,_⟩:=sr_tab h1 t1 (sr_none 6 w) own_none
 obtain⟨N2,r2,o2,_⟩:=sr_pow h2 t2 r1 o1
 exact⟨N2,r2,o2⟩
end Go.Ev

/- An object among the arguments, opened. -/
namespace Go.Ev
open Go Go.RowKit Go.ChangeShapes Go.WideShapes Go.Deep Go.Joins
end Go.Ev

/- A closed call run by the kernel: what it answers, and that what was there stays. -/
namespace Go.Ev
open Go
variable {T : Tab}
end Go.Ev

/- The functions that the law LogicBack reaches: their numbers, and the check of each body, printed by a program of this work. -/
namespace Go.Ev.LogicBack
open Go Go.Proofs Go.Ev
def phiT:NT:=(.node (.node (.node (.node (.node (.node (.node (.node .nil 53 207 .nil) 63 140 .nil) 75 169 (.node .nil 76 170 .nil)) 77 171 (.node (.node (.node .nil 84 241 .nil)
 91 150 .nil) 92 151 (.node .nil 94 194 .nil))) 95 195 (.node (.node (.node (.node .nil 96 196 .nil) 97 197 .nil) 98 198 (.node .nil 99 199 .nil)) 100 200 (.node (.node .nil 109 175
 .nil) 110 191 (.node .nil 112 216 .nil)))) 113 219 (.node (.node (.node (.node (.node .nil 114 220 .nil) 115 221 .nil) 116 222 (.node .nil 118 201 .nil)) 119 228 (.node (.node (.node
 .nil 120 235 .nil) 121 236 .nil) 122 229 (.node .nil 123 215 .nil))) 132 82 (.node (.node (.node (.node .nil 133 125 .nil) 136 164 .nil) 137 163 (.node .nil 138 165 .nil)) 139 192 (.node
 (.node .nil 140 217 .nil) 141 218 (.node .nil 142 230 .nil))))) 143 231 (.node (.node (.node (.node (.node (.node .nil 144 232 .nil) 145 233 .nil) 146 234 (.node .nil 147 242 .nil))
 148 239 (.node (.node (.node .nil 149 238 .nil) 294 8 .nil) 300 11 (.node .nil 301 23 .nil))) 302 28 (.node (.node (.node (.node .nil 303 26 .nil) 304 29 .nil) 305 30 (.node .nil 306
 22 .nil)) 307 24 (.node (.node .nil 308 14 .nil) 312 31 (.node .nil 313 32 .nil)))) 314 33 (.node (.node (.node (.node (.node .nil 316 21 .nil) 325 61 .nil) 326 89 (.node .nil 327 90
 .nil)) 328 91 (.node (.node .nil 329 92 .nil) 330 36 (.node .nil 331 37 .nil))) 332 38 (.node (.node (.node (.node .nil 333 39 .nil) 334 40 .nil) 335 41 (.node .nil 336 42 .nil)) 337
 43 (.node (.node .nil 338 44 .nil) 339 45 (.node .nil 340 46 .nil)))))) 341 47 (.node (.node (.node (.node (.node (.node (.node .nil 342 48 .nil) 343 50 .nil) 344 49 (.node .nil 345
 51 .nil)) 346 52 (.node (.node (.node .nil 347 53 .nil) 348 54 .nil) 349 55 (.node .nil 350 56 .nil))) 351 57 (.node (.node (.node (.node .nil 352 58 .nil) 353 59 .nil) 357 86 (.node
 .nil 358 93 .nil)) 359 70 (.node (.node .nil 360 69 .nil) 362 78 (.node .nil 363 79 .nil)))) 364 81 (.node (.node (.node (.node (.node .nil 365 83 .nil) 366 85 .nil) 379 131 (.node
 .nil 380 132 .nil)) 381 133 (.node (.node (.node .nil 382 94 .nil) 383 95 .nil) 384 96 (.node .nil 385 97 .nil))) 386 98 (.node (.node (.node (.node .nil 387 99 .nil) 388 100 .nil)
 389 101 (.node .nil 390 102 .nil)) 391 104 (.node (.node .nil 392 105 .nil) 393 106 (.node .nil 394 107 .nil))))) 395 109 (.node (.node (.node (.node (.node (.node .nil 396 108 .nil)
 400 126 .nil) 401 127 (.node .nil 402 120 .nil)) 403 80 (.node (.node (.node .nil 404 84 .nil) 417 167 .nil) 418 134 (.node .nil 419 136 .nil))) 420 137 (.node (.node (.node (.node
 .nil 421 139 .nil) 422 138 .nil) 423 103 (.node .nil 424 141 .nil)) 425 142 (.node (.node .nil 426 143 .nil) 427 144 (.node .nil 428 145 .nil)))) 429 146 (.node (.node (.node (.node
 (.node .nil 430 147 .nil) 431 154 .nil) 432 166 (.node .nil 439 172 .nil)) 440 173 (.node (.node .nil 441 174 .nil) 442 182 (.node .nil 443 183 .nil))) 444 184 (.node (.node (.node
 (.node .nil 445 185 .nil) 446 193 .nil) 447 206 (.node .nil 448 208 .nil)) 449 209 (.node (.node .nil 450 210 .nil) 451 226 (.node .nil 452 227 .nil)))))))
def tauT:NT:=(.node (.node (.node (.node (.node (.node (.node (.node (.node .nil 0 0 .nil) 1 1 .nil) 2 2 (.node (.node .nil 3 3 .nil) 4 4 .nil)) 5 5 (.node (.node (.node .nil 6
 6 .nil) 7 7 .nil) 8 8 (.node .nil 9 9 .nil))) 10 10 (.node (.node (.node (.node .nil 11 11 .nil) 12 12 .nil) 13 13 (.node .nil 14 14 .nil)) 15 15 (.node (.node (.node .nil 16 16 .nil)
 17 17 .nil) 18 18 (.node .nil 19 19 .nil)))) 20 20 (.node (.node (.node (.node (.node .nil 21 21 .nil) 25 26 .nil) 27 193 (.node .nil 28 207 .nil)) 30 58 (.node (.node (.node .nil 31
 86 .nil) 35 23 .nil) 37 242 (.node .nil 43 211 .nil))) 44 75 (.node (.node (.node (.node .nil 45 43 .nil) 48 138 .nil) 62 74 (.node .nil 79 73 .nil)) 82 198 (.node (.node (.node .nil
 83 199 .nil) 84 200 .nil) 85 201 (.node .nil 86 202 .nil))))) 87 203 (.node (.node (.node (.node (.node (.node .nil 88 204 .nil) 89 205 .nil) 102 152 (.node (.node .nil 103 299 .nil)
 105 159 .nil)) 108 226 (.node (.node (.node .nil 110 98 .nil) 112 261 .nil) 113 244 (.node .nil 114 251 .nil))) 115 252 (.node (.node (.node (.node .nil 116 253 .nil) 117 284 .nil)
 118 233 (.node .nil 120 102 .nil)) 121 301 (.node (.node (.node .nil 122 302 .nil) 123 303 .nil) 124 304 (.node .nil 125 305 .nil)))) 126 306 (.node (.node (.node (.node (.node .nil
 127 307 .nil) 128 308 .nil) 129 309 (.node .nil 130 310 .nil)) 131 311 (.node (.node (.node .nil 132 312 .nil) 133 185 .nil) 134 186 (.node .nil 135 187 .nil))) 136 188 (.node (.node
 (.node (.node .nil 137 243 .nil) 141 157 .nil) 149 220 (.node .nil 150 221 .nil)) 151 222 (.node (.node (.node .nil 152 237 .nil) 153 238 .nil) 154 239 (.node .nil 155 240 .nil))))))
 156 148 (.node (.node (.node (.node (.node (.node (.node .nil 157 241 .nil) 158 250 .nil) 159 297 (.node (.node .nil 161 268 .nil) 170 206 .nil)) 172 245 (.node (.node (.node .nil 173
 246 .nil) 174 247 .nil) 175 248 (.node .nil 176 249 .nil))) 177 262 (.node (.node (.node (.node .nil 178 263 .nil) 180 264 .nil) 181 265 (.node .nil 182 266 .nil)) 183 147 (.node (.node
 (.node .nil 184 267 .nil) 185 269 .nil) 186 270 (.node .nil 187 271 .nil)))) 188 272 (.node (.node (.node (.node (.node .nil 189 273 .nil) 190 274 .nil) 191 275 (.node .nil 192 276
 .nil)) 195 285 (.node (.node (.node .nil 196 286 .nil) 197 287 .nil) 198 288 (.node .nil 199 289 .nil))) 200 290 (.node (.node (.node (.node .nil 201 90 .nil) 202 298 .nil) 203 300
 (.node .nil 213 56 .nil)) 214 129 (.node (.node (.node .nil 215 167 .nil) 216 208 .nil) 217 209 (.node .nil 218 214 .nil))))) 219 215 (.node (.node (.node (.node (.node (.node .nil
 220 216 .nil) 221 217 .nil) 222 218 (.node .nil 223 227 .nil)) 224 228 (.node (.node (.node .nil 225 229 .nil) 226 230 .nil) 227 231 (.node .nil 228 213 .nil))) 229 254 (.node (.node
 (.node (.node .nil 230 255 .nil) 231 256 .nil) 232 257 (.node .nil 233 232 .nil)) 234 234 (.node (.node (.node .nil 235 235 .nil) 236 236 .nil) 237 277 (.node .nil 238 278 .nil))))
 239 279 (.node (.node (.node (.node (.node .nil 240 280 .nil) 241 281 .nil) 242 282 (.node .nil 243 283 .nil)) 244 258 (.node (.node (.node .nil 245 259 .nil) 246 260 .nil) 247 291
 (.node .nil 248 292 .nil))) 249 293 (.node (.node (.node (.node .nil 250 294 .nil) 251 295 .nil) 252 296 (.node .nil 287 118 .nil)) 372 166 (.node (.node (.node .nil 426 146 .nil) 428
 22 .nil) 429 24 (.node .nil 430 25 .nil))))))) 431 27 (.node (.node (.node (.node (.node (.node (.node (.node .nil 432 28 .nil) 433 29 .nil) 434 30 (.node (.node .nil 435 31 .nil) 436
 32 .nil)) 437 33 (.node (.node (.node .nil 438 34 .nil) 439 35 .nil) 440 36 (.node .nil 441 37 .nil))) 442 38 (.node (.node (.node (.node .nil 443 39 .nil) 444 40 .nil) 445 41 (.node
 .nil 446 42 .nil)) 447 44 (.node (.node (.node .nil 448 45 .nil) 449 46 .nil) 450 47 (.node .nil 451 48 .nil)))) 452 49 (.node (.node (.node (.node (.node .nil 453 50 .nil) 454 51 .nil)
 455 52 (.node .nil 456 53 .nil)) 457 54 (.node (.node (.node .nil 458 55 .nil) 459 57 .nil) 460 59 (.node .nil 461 60 .nil))) 462 61 (.node (.node (.node (.node .nil 463 62 .nil) 464
 63 .nil) 465 64 (.node .nil 466 65 .nil)) 467 66 (.node (.node (.node .nil 468 67 .nil) 469 68 .nil) 470 69 (.node .nil 471 70 .nil))))) 472 71 (.node (.node (.node (.node (.node (.node
 .nil 473 72 .nil) 474 76 .nil) 475 77 (.node (.node .nil 476 78 .nil) 477 79 .nil)) 478 80 (.node (.node (.node .nil 479 81 .nil) 480 82 .nil) 481 83 (.node .nil 482 84 .nil))) 483
 85 (.node (.node (.node (.node .nil 484 87 .nil) 485 88 .nil) 486 89 (.node .nil 487 91 .nil)) 488 92 (.node (.node (.node .nil 489 93 .nil) 490 94 .nil) 491 95 (.node .nil 492 96 .nil))))
 493 97 (.node (.node (.node (.node (.node .nil 494 99 .nil) 495 100 .nil) 496 101 (.node .nil 497 103 .nil)) 498 104 (.node (.node (.node .nil 499 105 .nil) 500 106 .nil) 501 107 (.node
 .nil 502 108 .nil))) 503 109 (.node (.node (.node (.node .nil 504 110 .nil) 505 111 .nil) 506 112 (.node .nil 507 113 .nil)) 508 114 (.node (.node (.node .nil 509 115 .nil) 510 116
 .nil) 511 117 (.node .nil 512 119 .nil)))))) 513 120 (.node (.node (.node (.node (.node (.node (.node .nil 514 121 .nil) 515 122 .nil) 516 123 (.node (.node .nil 517 124 .nil) 518 125
 .nil)) 519 126 (.node (.node (.node .nil 520 127 .nil) 521 128 .nil) 522 130 (.node .nil 523 131 .nil))) 524 132 (.node (.node (.node (.node .nil 525 133 .nil) 526 134 .nil) 527 135
 (.node .nil 528 136 .nil)) 529 137 (.node (.node (.node .nil 530 139 .nil) 531 140 .nil) 532 141 (.node .nil 533 142 .nil)))) 534 143 (.node (.node (.node (.node (.node .nil 535 144
 .nil) 536 145 .nil) 537 149 (.node .nil 538 150 .nil)) 539 151 (.node (.node (.node .nil 540 153 .nil) 541 154 .nil) 542 155 (.node .nil 543 156 .nil))) 544 158 (.node (.node (.node
 (.node .nil 545 160 .nil) 546 161 .nil) 547 162 (.node .nil 548 163 .nil)) 549 164 (.node (.node (.node .nil 550 165 .nil) 551 168 .nil) 552 169 (.node .nil 553 170 .nil))))) 554 171
 (.node (.node (.node (.node (.node (.node .nil 555 172 .nil) 556 173 .nil) 557 174 (.node .nil 558 175 .nil)) 559 176 (.node (.node (.node .nil 560 177 .nil) 561 178 .nil) 562 179 (.node
 .nil 563 180 .nil))) 564 181 (.node (.node (.node (.node .nil 565 182 .nil) 566 183 .nil) 567 184 (.node .nil 568 189 .nil)) 569 190 (.node (.node (.node .nil 570 191 .nil) 571 192
 .nil) 572 194 (.node .nil 573 195 .nil)))) 574 196 (.node (.node (.node (.node (.node .nil 575 197 .nil) 576 210 .nil) 577 212 (.node .nil 578 219 .nil)) 579 223 (.node (.node (.node
 .nil 580 224 .nil) 581 225 .nil) 582 313 (.node .nil 583 314 .nil))) 584 315 (.node (.node (.node (.node .nil 585 316 .nil) 586 317 .nil) 587 318 (.node .nil 588 319 .nil)) 589 320
 (.node (.node (.node .nil 590 321 .nil) 591 322 .nil) 592 323 (.node .nil 593 324 .nil))))))))
def gamT:NT:=(.node (.node (.node (.node .nil 0 1 .nil) 1 2 .nil) 2 4 (.node .nil 3 5 .nil)) 4 3 (.node (.node .nil 5 6 .nil) 6 7 (.node .nil 8 0 .nil)))
noncomputable def cx:Cx:=⟨Tryz.prog,phiT.get,tauT.get,gamT.get⟩
theorem k_math_bits_Len64:FnOK cx 53 B.math_bits_Len64:=fnOK_of (by kernel_rfl) Tryz.func207 (by kernel_rfl)
theorem k_lex_Number:FnOK cx 63 B.lex_Number:=fnOK_of (by kernel_rfl) Tryz.func140 (by kernel_rfl)
theorem k_lex_numeral_whole:FnOK cx 75 B.lex_numeral_whole:=fnOK_of (by kernel_rfl) Tryz.func169 (by kernel_rfl)
theorem k_lex_numeral_radix:FnOK cx 76 B.lex_numeral_radix:=fnOK_of (by kernel_rfl) Tryz.func170 (by kernel_rfl)
theorem k_lex_numeral_decimal:FnOK cx 77 B.lex_numeral_decimal:=fnOK_of (by kernel_rfl) Tryz.func171 (by kernel_rfl)
theorem k_strings_Builder_WriteByte:FnOK cx 91 B.strings_Builder_WriteByte:=fnOK_of (by kernel_rfl) Tryz.func150 (by kernel_rfl)
theorem k_strings_Builder_String:FnOK cx 92 B.strings_Builder_String:=fnOK_of (by kernel_rfl) Tryz.func151 (by kernel_rfl)
theorem k_strings_HasPrefix:FnOK cx 94 B.strings_HasPrefix:=fnOK_of (by kernel_rfl) Tryz.func194 (by kernel_rfl)
theorem k_lex_count:FnOK cx 95 B.lex_count:=fnOK_of (by kernel_rfl) Tryz.func195 (by kernel_rfl)
theorem k_lex_numeral_answer:FnOK cx 96 B.lex_numeral_answer:=fnOK_of (by kernel_rfl) Tryz.func196 (by kernel_rfl)
theorem k_strings_Cut:FnOK cx 97 B.strings_Cut:=fnOK_of (by kernel_rfl) Tryz.func197 (by kernel_rfl)
theorem k_strings_ContainsAny:FnOK cx 98 B.strings_ContainsAny:=fnOK_of (by kernel_rfl) Tryz.func198 (by kernel_rfl)
theorem k_lex_pattern:FnOK cx 99 B.lex_pattern:=fnOK_of (by kernel_rfl) Tryz.func199 (by kernel_rfl)
theorem k_real_Parse:FnOK cx 100 B.real_Parse:=fnOK_of (by kernel_rfl) Tryz.func200 (by kernel_rfl)
theorem k_strings_Builder_copyCheck:FnOK cx 109 B.strings_Builder_copyCheck:=fnOK_of (by kernel_rfl) Tryz.func175 (by kernel_rfl)
theorem k_real_Is:FnOK cx 110 B.real_Is:=fnOK_of (by kernel_rfl) Tryz.func191 (by kernel_rfl)
theorem k_lex_digits:FnOK cx 112 B.lex_digits:=fnOK_of (by kernel_rfl) Tryz.func216 (by kernel_rfl)
theorem k_real_scanner_decimal:FnOK cx 113 B.real_scanner_decimal:=fnOK_of (by kernel_rfl) Tryz.func219 (by kernel_rfl)
theorem k_real_front:FnOK cx 114 B.real_front:=fnOK_of (by kernel_rfl) Tryz.func220 (by kernel_rfl)
theorem k_real_fraction:FnOK cx 115 B.real_fraction:=fnOK_of (by kernel_rfl) Tryz.func221 (by kernel_rfl)
theorem k_real_double:FnOK cx 116 B.real_double:=fnOK_of (by kernel_rfl) Tryz.func222 (by kernel_rfl)
theorem k_lex_digits_1:FnOK cx 119 B.lex_digits_1:=fnOK_of (by kernel_rfl) Tryz.func228 (by kernel_rfl)
theorem k_real_scanner_one:FnOK cx 120 B.real_scanner_one:=fnOK_of (by kernel_rfl) Tryz.func235 (by kernel_rfl)
theorem k_real_scanner_digits:FnOK cx 121 B.real_scanner_digits:=fnOK_of (by kernel_rfl) Tryz.func236 (by kernel_rfl)
theorem k_lex_value:FnOK cx 122 B.lex_value:=fnOK_of (by kernel_rfl) Tryz.func229 (by kernel_rfl)
theorem k_stringslite_HasPrefix:FnOK cx 123 B.stringslite_HasPrefix:=fnOK_of (by kernel_rfl) Tryz.func215 (by kernel_rfl)
theorem k_real_Print:FnOK cx 133 B.real_Print:=fnOK_of (by kernel_rfl) Tryz.func125 (by kernel_rfl)
theorem k_real_Print_1:FnOK cx 136 B.real_Print_1:=fnOK_of (by kernel_rfl) Tryz.func164 (by kernel_rfl)
theorem k_real_result_string:FnOK cx 137 B.real_result_string:=fnOK_of (by kernel_rfl) Tryz.func163 (by kernel_rfl)
theorem k_real_whole:FnOK cx 138 B.real_whole:=fnOK_of (by kernel_rfl) Tryz.func165 (by kernel_rfl)
theorem k_real_whole_1:FnOK cx 139 B.real_whole_1:=fnOK_of (by kernel_rfl) Tryz.func192 (by kernel_rfl)
theorem k_stringslite_Cut:FnOK cx 140 B.stringslite_Cut:=fnOK_of (by kernel_rfl) Tryz.func217 (by kernel_rfl)
theorem k_strings_IndexAny:FnOK cx 141 B.strings_IndexAny:=fnOK_of (by kernel_rfl) Tryz.func218 (by kernel_rfl)
theorem k_strings_IndexRune:FnOK cx 143 B.strings_IndexRune:=fnOK_of (by kernel_rfl) Tryz.func231 (by kernel_rfl)
theorem k_strings_shouldUseASCIISet:FnOK cx 144 B.strings_shouldUseASCIISet:=fnOK_of (by kernel_rfl) Tryz.func232 (by kernel_rfl)
theorem k_strings_makeASCIISet:FnOK cx 145 B.strings_makeASCIISet:=fnOK_of (by kernel_rfl) Tryz.func233 (by kernel_rfl)
theorem k_strings_asciiSet_contains:FnOK cx 146 B.strings_asciiSet_contains:=fnOK_of (by kernel_rfl) Tryz.func234 (by kernel_rfl)
theorem k_unicode_utf8_ValidRune:FnOK cx 147 B.unicode_utf8_ValidRune:=fnOK_of (by kernel_rfl) Tryz.func242 (by kernel_rfl)
theorem k_bytealg_Cutover:FnOK cx 148 B.bytealg_Cutover:=fnOK_of (by kernel_rfl) Tryz.func239 (by kernel_rfl)
theorem k_chaselaw14_LogicBack:FnOK cx 294 B.chaselaw14_LogicBack:=fnOK_of (by kernel_rfl) Tryz.func8 (by kernel_rfl)
theorem k_chaselaw14_wakes:FnOK cx 300 B.chaselaw14_wakes:=fnOK_of (by kernel_rfl) Tryz.func11 (by kernel_rfl)
theorem k_chaselaw14_i:FnOK cx 301 B.chaselaw14_i:=fnOK_of (by kernel_rfl) Tryz.func23 (by kernel_rfl)
theorem k_chaselaw14_b:FnOK cx 302 B.chaselaw14_b:=fnOK_of (by kernel_rfl) Tryz.func28 (by kernel_rfl)
theorem k_chaselaw14_one:FnOK cx 303 B.chaselaw14_one:=fnOK_of (by kernel_rfl) Tryz.func26 (by kernel_rfl)
theorem k_heap_Fits:FnOK cx 304 B.heap_Fits:=fnOK_of (by kernel_rfl) Tryz.func29 (by kernel_rfl)
theorem k_object_KindName:FnOK cx 305 B.object_KindName:=fnOK_of (by kernel_rfl) Tryz.func30 (by kernel_rfl)
theorem k_chaselaw14_strings:FnOK cx 306 B.chaselaw14_strings:=fnOK_of (by kernel_rfl) Tryz.func22 (by kernel_rfl)
theorem k_chaselaw14_r:FnOK cx 307 B.chaselaw14_r:=fnOK_of (by kernel_rfl) Tryz.func24 (by kernel_rfl)
theorem k_logic_Do:FnOK cx 308 B.logic_Do:=fnOK_of (by kernel_rfl) Tryz.func14 (by kernel_rfl)
theorem k_chaselaw14_gives:FnOK cx 312 B.chaselaw14_gives:=fnOK_of (by kernel_rfl) Tryz.func31 (by kernel_rfl)
theorem k_chaselaw14_writes:FnOK cx 313 B.chaselaw14_writes:=fnOK_of (by kernel_rfl) Tryz.func32 (by kernel_rfl)
theorem k_chaselaw14_fails:FnOK cx 314 B.chaselaw14_fails:=fnOK_of (by kernel_rfl) Tryz.func33 (by kernel_rfl)
theorem k_logic_Text:FnOK cx 316 B.logic_Text:=fnOK_of (by kernel_rfl) Tryz.func21 (by kernel_rfl)
theorem k_chaseref10_Bool:FnOK cx 325 B.chaseref10_Bool:=fnOK_of (by kernel_rfl) Tryz.func61 (by kernel_rfl)
theorem k_object_Check:FnOK cx 326 B.object_Check:=fnOK_of (by kernel_rfl) Tryz.func89 (by kernel_rfl)
theorem k_heap_cellKind:FnOK cx 327 B.heap_cellKind:=fnOK_of (by kernel_rfl) Tryz.func90 (by kernel_rfl)
theorem k_heap_length:FnOK cx 328 B.heap_length:=fnOK_of (by kernel_rfl) Tryz.func91 (by kernel_rfl)
theorem k_object_kinds:FnOK cx 329 B.object_kinds:=fnOK_of (by kernel_rfl) Tryz.func92 (by kernel_rfl)
theorem k_logic_Do_1:FnOK cx 330 B.logic_Do_1:=fnOK_of (by kernel_rfl) Tryz.func36 (by kernel_rfl)
theorem k_logic_Do_2:FnOK cx 331 B.logic_Do_2:=fnOK_of (by kernel_rfl) Tryz.func37 (by kernel_rfl)
theorem k_logic_Do_3:FnOK cx 332 B.logic_Do_3:=fnOK_of (by kernel_rfl) Tryz.func38 (by kernel_rfl)
theorem k_logic_Do_4:FnOK cx 333 B.logic_Do_4:=fnOK_of (by kernel_rfl) Tryz.func39 (by kernel_rfl)
theorem k_logic_judge_compare:FnOK cx 334 B.logic_judge_compare:=fnOK_of (by kernel_rfl) Tryz.func40 (by kernel_rfl)
theorem k_logic_Do_5:FnOK cx 335 B.logic_Do_5:=fnOK_of (by kernel_rfl) Tryz.func41 (by kernel_rfl)
theorem k_logic_Do_6:FnOK cx 336 B.logic_Do_6:=fnOK_of (by kernel_rfl) Tryz.func42 (by kernel_rfl)
theorem k_logic_Do_7:FnOK cx 337 B.logic_Do_7:=fnOK_of (by kernel_rfl) Tryz.func43 (by kernel_rfl)
theorem k_logic_judge_bits:FnOK cx 338 B.logic_judge_bits:=fnOK_of (by kernel_rfl) Tryz.func44 (by kernel_rfl)
theorem k_logic_judge_one:FnOK cx 339 B.logic_judge_one:=fnOK_of (by kernel_rfl) Tryz.func45 (by kernel_rfl)
theorem k_logic_judge_same:FnOK cx 340 B.logic_judge_same:=fnOK_of (by kernel_rfl) Tryz.func46 (by kernel_rfl)
theorem k_logic_judge_not:FnOK cx 341 B.logic_judge_not:=fnOK_of (by kernel_rfl) Tryz.func47 (by kernel_rfl)
theorem k_logic_judge_bitshift:FnOK cx 342 B.logic_judge_bitshift:=fnOK_of (by kernel_rfl) Tryz.func48 (by kernel_rfl)
theorem k_object_Bool:FnOK cx 343 B.object_Bool:=fnOK_of (by kernel_rfl) Tryz.func50 (by kernel_rfl)
theorem k_stack_Push:FnOK cx 344 B.stack_Push:=fnOK_of (by kernel_rfl) Tryz.func49 (by kernel_rfl)
theorem k_logic_kindOf:FnOK cx 345 B.logic_kindOf:=fnOK_of (by kernel_rfl) Tryz.func51 (by kernel_rfl)
theorem k_logic_Do_8:FnOK cx 346 B.logic_Do_8:=fnOK_of (by kernel_rfl) Tryz.func52 (by kernel_rfl)
theorem k_logic_executable:FnOK cx 347 B.logic_executable:=fnOK_of (by kernel_rfl) Tryz.func53 (by kernel_rfl)
theorem k_logic_judge_named:FnOK cx 348 B.logic_judge_named:=fnOK_of (by kernel_rfl) Tryz.func54 (by kernel_rfl)
theorem k_logic_converted_api_Obj:FnOK cx 349 B.logic_converted_api_Obj:=fnOK_of (by kernel_rfl) Tryz.func55 (by kernel_rfl)
theorem k_object_ToInt:FnOK cx 350 B.object_ToInt:=fnOK_of (by kernel_rfl) Tryz.func56 (by kernel_rfl)
theorem k_object_ToReal:FnOK cx 351 B.object_ToReal:=fnOK_of (by kernel_rfl) Tryz.func57 (by kernel_rfl)
theorem k_logic_judge_cvs:FnOK cx 352 B.logic_judge_cvs:=fnOK_of (by kernel_rfl) Tryz.func58 (by kernel_rfl)
theorem k_logic_judge_cvrs:FnOK cx 353 B.logic_judge_cvrs:=fnOK_of (by kernel_rfl) Tryz.func59 (by kernel_rfl)
theorem k_heap_Bytes:FnOK cx 357 B.heap_Bytes:=fnOK_of (by kernel_rfl) Tryz.func86 (by kernel_rfl)
theorem k_slices_Equal_api_Obj_api_Obj:FnOK cx 358 B.slices_Equal_api_Obj_api_Obj:=fnOK_of (by kernel_rfl) Tryz.func93 (by kernel_rfl)
theorem k_chaseref11_Same:FnOK cx 359 B.chaseref11_Same:=fnOK_of (by kernel_rfl) Tryz.func70 (by kernel_rfl)
theorem k_chaseref11_sameObjs:FnOK cx 360 B.chaseref11_sameObjs:=fnOK_of (by kernel_rfl) Tryz.func69 (by kernel_rfl)
theorem k_logic_Text_1:FnOK cx 362 B.logic_Text_1:=fnOK_of (by kernel_rfl) Tryz.func78 (by kernel_rfl)
theorem k_logic_Text_2:FnOK cx 363 B.logic_Text_2:=fnOK_of (by kernel_rfl) Tryz.func79 (by kernel_rfl)
theorem k_logic_Text_3:FnOK cx 364 B.logic_Text_3:=fnOK_of (by kernel_rfl) Tryz.func81 (by kernel_rfl)
theorem k_logic_Text_4:FnOK cx 365 B.logic_Text_4:=fnOK_of (by kernel_rfl) Tryz.func83 (by kernel_rfl)
theorem k_logic_Text_5:FnOK cx 366 B.logic_Text_5:=fnOK_of (by kernel_rfl) Tryz.func85 (by kernel_rfl)
theorem k_object_kind_number:FnOK cx 379 B.object_kind_number:=fnOK_of (by kernel_rfl) Tryz.func131 (by kernel_rfl)
theorem k_object_kind_named:FnOK cx 380 B.object_kind_named:=fnOK_of (by kernel_rfl) Tryz.func132 (by kernel_rfl)
theorem k_object_kind_referring:FnOK cx 381 B.object_kind_referring:=fnOK_of (by kernel_rfl) Tryz.func133 (by kernel_rfl)
theorem k_logic_judge_operands:FnOK cx 382 B.logic_judge_operands:=fnOK_of (by kernel_rfl) Tryz.func94 (by kernel_rfl)
theorem k_logic_allows:FnOK cx 383 B.logic_allows:=fnOK_of (by kernel_rfl) Tryz.func95 (by kernel_rfl)
theorem k_object_Compare:FnOK cx 385 B.object_Compare:=fnOK_of (by kernel_rfl) Tryz.func97 (by kernel_rfl)
theorem k_logic_judge_result:FnOK cx 386 B.logic_judge_result:=fnOK_of (by kernel_rfl) Tryz.func98 (by kernel_rfl)
theorem k_heap_Equal:FnOK cx 387 B.heap_Equal:=fnOK_of (by kernel_rfl) Tryz.func99 (by kernel_rfl)
theorem k_object_Name:FnOK cx 388 B.object_Name:=fnOK_of (by kernel_rfl) Tryz.func100 (by kernel_rfl)
theorem k_logic_executable_1:FnOK cx 389 B.logic_executable_1:=fnOK_of (by kernel_rfl) Tryz.func101 (by kernel_rfl)
theorem k_logic_converted_api_Obj_1:FnOK cx 390 B.logic_converted_api_Obj_1:=fnOK_of (by kernel_rfl) Tryz.func102 (by kernel_rfl)
theorem k_object_Value:FnOK cx 391 B.object_Value:=fnOK_of (by kernel_rfl) Tryz.func104 (by kernel_rfl)
theorem k_object_Int:FnOK cx 392 B.object_Int:=fnOK_of (by kernel_rfl) Tryz.func105 (by kernel_rfl)
theorem k_object_Real:FnOK cx 393 B.object_Real:=fnOK_of (by kernel_rfl) Tryz.func106 (by kernel_rfl)
theorem k_logic_judge_put:FnOK cx 394 B.logic_judge_put:=fnOK_of (by kernel_rfl) Tryz.func107 (by kernel_rfl)
theorem k_strconv_FormatUint:FnOK cx 395 B.strconv_FormatUint:=fnOK_of (by kernel_rfl) Tryz.func109 (by kernel_rfl)
theorem k_heap_viewOf:FnOK cx 400 B.heap_viewOf:=fnOK_of (by kernel_rfl) Tryz.func126 (by kernel_rfl)
theorem k_heap_view_cell:FnOK cx 401 B.heap_view_cell:=fnOK_of (by kernel_rfl) Tryz.func127 (by kernel_rfl)
theorem k_chaseref11_SameCell:FnOK cx 402 B.chaseref11_SameCell:=fnOK_of (by kernel_rfl) Tryz.func120 (by kernel_rfl)
theorem k_logic_printed:FnOK cx 404 B.logic_printed:=fnOK_of (by kernel_rfl) Tryz.func84 (by kernel_rfl)
theorem k_object_kind_longest:FnOK cx 417 B.object_kind_longest:=fnOK_of (by kernel_rfl) Tryz.func167 (by kernel_rfl)
theorem k_stack_Top:FnOK cx 418 B.stack_Top:=fnOK_of (by kernel_rfl) Tryz.func134 (by kernel_rfl)
theorem k_stack_Drop:FnOK cx 419 B.stack_Drop:=fnOK_of (by kernel_rfl) Tryz.func136 (by kernel_rfl)
theorem k_heap_octets:FnOK cx 420 B.heap_octets:=fnOK_of (by kernel_rfl) Tryz.func137 (by kernel_rfl)
theorem k_object_Name_1:FnOK cx 421 B.object_Name_1:=fnOK_of (by kernel_rfl) Tryz.func139 (by kernel_rfl)
theorem k_object_made_string:FnOK cx 422 B.object_made_string:=fnOK_of (by kernel_rfl) Tryz.func138 (by kernel_rfl)
theorem k_logic_judge_number:FnOK cx 423 B.logic_judge_number:=fnOK_of (by kernel_rfl) Tryz.func103 (by kernel_rfl)
theorem k_object_numberOf:FnOK cx 424 B.object_numberOf:=fnOK_of (by kernel_rfl) Tryz.func141 (by kernel_rfl)
theorem k_object_number_value:FnOK cx 425 B.object_number_value:=fnOK_of (by kernel_rfl) Tryz.func142 (by kernel_rfl)
theorem k_object_made_int:FnOK cx 426 B.object_made_int:=fnOK_of (by kernel_rfl) Tryz.func143 (by kernel_rfl)
theorem k_object_Int_1:FnOK cx 427 B.object_Int_1:=fnOK_of (by kernel_rfl) Tryz.func144 (by kernel_rfl)
theorem k_object_Real_1:FnOK cx 428 B.object_Real_1:=fnOK_of (by kernel_rfl) Tryz.func145 (by kernel_rfl)
theorem k_heap_Interval:FnOK cx 429 B.heap_Interval:=fnOK_of (by kernel_rfl) Tryz.func146 (by kernel_rfl)
theorem k_heap_PutBytes:FnOK cx 430 B.heap_PutBytes:=fnOK_of (by kernel_rfl) Tryz.func147 (by kernel_rfl)
theorem k_istrconv_FormatUint:FnOK cx 431 B.istrconv_FormatUint:=fnOK_of (by kernel_rfl) Tryz.func154 (by kernel_rfl)
theorem k_slices_Contains_int_int:FnOK cx 432 B.slices_Contains_int_int:=fnOK_of (by kernel_rfl) Tryz.func166 (by kernel_rfl)
theorem k_heap_view_room:FnOK cx 439 B.heap_view_room:=fnOK_of (by kernel_rfl) Tryz.func172 (by kernel_rfl)
theorem k_heap_replaced_byte:FnOK cx 440 B.heap_replaced_byte:=fnOK_of (by kernel_rfl) Tryz.func173 (by kernel_rfl)
theorem k_heap_view_with:FnOK cx 441 B.heap_view_with:=fnOK_of (by kernel_rfl) Tryz.func174 (by kernel_rfl)
theorem k_strconv_small:FnOK cx 442 B.strconv_small:=fnOK_of (by kernel_rfl) Tryz.func182 (by kernel_rfl)
theorem k_strconv_numDigits:FnOK cx 443 B.strconv_numDigits:=fnOK_of (by kernel_rfl) Tryz.func183 (by kernel_rfl)
theorem k_strconv_formatBase10:FnOK cx 444 B.strconv_formatBase10:=fnOK_of (by kernel_rfl) Tryz.func184 (by kernel_rfl)
theorem k_strconv_formatBits:FnOK cx 445 B.strconv_formatBits:=fnOK_of (by kernel_rfl) Tryz.func185 (by kernel_rfl)
theorem k_slices_Index_int_int:FnOK cx 446 B.slices_Index_int_int:=fnOK_of (by kernel_rfl) Tryz.func193 (by kernel_rfl)
theorem k_strconv_log10Pow2:FnOK cx 447 B.strconv_log10Pow2:=fnOK_of (by kernel_rfl) Tryz.func206 (by kernel_rfl)
theorem k_strconv_bool2_int:FnOK cx 448 B.strconv_bool2_int:=fnOK_of (by kernel_rfl) Tryz.func208 (by kernel_rfl)
theorem k_strconv_isPowerOfTwo:FnOK cx 449 B.strconv_isPowerOfTwo:=fnOK_of (by kernel_rfl) Tryz.func209 (by kernel_rfl)
theorem k_math_bits_TrailingZeros:FnOK cx 450 B.math_bits_TrailingZeros:=fnOK_of (by kernel_rfl) Tryz.func210 (by kernel_rfl)
theorem k_math_bits_TrailingZeros32:FnOK cx 451 B.math_bits_TrailingZeros32:=fnOK_of (by kernel_rfl) Tryz.func226 (by kernel_rfl)
theorem k_math_bits_TrailingZeros64:FnOK cx 452 B.math_bits_TrailingZeros64:=fnOK_of (by kernel_rfl) Tryz.func227 (by kernel_rfl)
def fnT:FT:=(.node (.node (.node (.node (.node (.node (.node (.node .nil 53 B.math_bits_Len64 .nil) 63 B.lex_Number .nil) 75 B.lex_numeral_whole (.node .nil 76 B.lex_numeral_radix
 .nil)) 77 B.lex_numeral_decimal (.node (.node .nil 91 B.strings_Builder_WriteByte .nil) 92 B.strings_Builder_String (.node .nil 94 B.strings_HasPrefix .nil))) 95 B.lex_count (.node
 (.node (.node (.node .nil 96 B.lex_numeral_answer .nil) 97 B.strings_Cut .nil) 98 B.strings_ContainsAny (.node .nil 99 B.lex_pattern .nil)) 100 B.real_Parse (.node (.node .nil 109 B.strings_Builder_copyCheck
 .nil) 110 B.real_Is (.node .nil 112 B.lex_digits .nil)))) 113 B.real_scanner_decimal (.node (.node (.node (.node (.node .nil 114 B.real_front .nil) 115 B.real_fraction .nil) 116 B.real_double
 (.node .nil 119 B.lex_digits_1 .nil)) 120 B.real_scanner_one (.node (.node .nil 121 B.real_scanner_digits .nil) 122 B.lex_value (.node .nil 123 B.stringslite_HasPrefix .nil))) 133 B.real_Print
 (.node (.node (.node (.node .nil 136 B.real_Print_1 .nil) 137 B.real_result_string .nil) 138 B.real_whole (.node .nil 139 B.real_whole_1 .nil)) 140 B.stringslite_Cut (.node (.node .nil
 141 B.strings_IndexAny .nil) 143 B.strings_IndexRune (.node .nil 144 B.strings_shouldUseASCIISet .nil))))) 145 B.strings_makeASCIISet (.node (.node (.node (.node (.node (.node .nil
 146 B.strings_asciiSet_contains .nil) 147 B.unicode_utf8_ValidRune .nil) 148 B.bytealg_Cutover (.node .nil 294 B.chaselaw14_LogicBack .nil)) 300 B.chaselaw14_wakes (.node (.node .nil
 301 B.chaselaw14_i .nil) 302 B.chaselaw14_b (.node .nil 303 B.chaselaw14_one .nil))) 304 B.heap_Fits (.node (.node (.node (.node .nil 305 B.object_KindName .nil) 306 B.chaselaw14_strings
 .nil) 307 B.chaselaw14_r (.node .nil 308 B.logic_Do .nil)) 312 B.chaselaw14_gives (.node (.node .nil 313 B.chaselaw14_writes .nil) 314 B.chaselaw14_fails (.node .nil 316 B.logic_Text
 .nil)))) 325 B.chaseref10_Bool (.node (.node (.node (.node (.node .nil 326 B.object_Check .nil) 327 B.heap_cellKind .nil) 328 B.heap_length (.node .nil 329 B.object_kinds .nil)) 330
 B.logic_Do_1 (.node (.node .nil 331 B.logic_Do_2 .nil) 332 B.logic_Do_3 (.node .nil 333 B.logic_Do_4 .nil))) 334 B.logic_judge_compare (.node (.node (.node .nil 335 B.logic_Do_5 .nil)
 336 B.logic_Do_6 (.node .nil 337 B.logic_Do_7 .nil)) 338 B.logic_judge_bits (.node (.node .nil 339 B.logic_judge_one .nil) 340 B.logic_judge_same (.node .nil 341 B.logic_judge_not .nil))))))
 342 B.logic_judge_bitshift (.node (.node (.node (.node (.node (.node (.node .nil 343 B.object_Bool .nil) 344 B.stack_Push .nil) 345 B.logic_kindOf (.node .nil 346 B.logic_Do_8 .nil))
 347 B.logic_executable (.node (.node .nil 348 B.logic_judge_named .nil) 349 B.logic_converted_api_Obj (.node .nil 350 B.object_ToInt .nil))) 351 B.object_ToReal (.node (.node (.node
 (.node .nil 352 B.logic_judge_cvs .nil) 353 B.logic_judge_cvrs .nil) 357 B.heap_Bytes (.node .nil 358 B.slices_Equal_api_Obj_api_Obj .nil)) 359 B.chaseref11_Same (.node (.node .nil
 360 B.chaseref11_sameObjs .nil) 362 B.logic_Text_1 (.node .nil 363 B.logic_Text_2 .nil)))) 364 B.logic_Text_3 (.node (.node (.node (.node (.node .nil 365 B.logic_Text_4 .nil) 366 B.logic_Text_5
 .nil) 379 B.object_kind_number (.node .nil 380 B.object_kind_named .nil)) 381 B.object_kind_referring (.node (.node .nil 382 B.logic_judge_operands .nil) 383 B.logic_allows (.node .nil
 385 B.object_Compare .nil))) 386 B.logic_judge_result (.node (.node (.node (.node .nil 387 B.heap_Equal .nil) 388 B.object_Name .nil) 389 B.logic_executable_1 (.node .nil 390 B.logic_converted_api_Obj_1
 .nil)) 391 B.object_Value (.node (.node .nil 392 B.object_Int .nil) 393 B.object_Real (.node .nil 394 B.logic_judge_put .nil))))) 395 B.strconv_FormatUint (.node (.node (.node (.node
 (.node (.node .nil 400 B.heap_viewOf .nil) 401 B.heap_view_cell .nil) 402 B.chaseref11_SameCell (.node .nil 404 B.logic_printed .nil)) 417 B.object_kind_longest (.node (.node .nil 418
 B.stack_Top .nil) 419 B.stack_Drop (.node .nil 420 B.heap_octets .nil))) 421 B.object_Name_1 (.node (.node (.node (.node .nil 422 B.object_made_string .nil) 423 B.logic_judge_number
 .nil) 424 B.object_numberOf (.node .nil 425 B.object_number_value .nil)) 426 B.object_made_int (.node (.node .nil 427 B.object_Int_1 .nil) 428 B.object_Real_1 (.node .nil 429 B.heap_Interval
 .nil)))) 430 B.heap_PutBytes (.node (.node (.node (.node (.node .nil 431 B.istrconv_FormatUint .nil) 432 B.slices_Contains_int_int .nil) 439 B.heap_view_room (.node .nil 440 B.heap_replaced_byte
 .nil)) 441 B.heap_view_with (.node (.node .nil 442 B.strconv_small .nil) 443 B.strconv_numDigits (.node .nil 444 B.strconv_formatBase10 .nil))) 445 B.strconv_formatBits (.node (.node
 (.node .nil 446 B.slices_Index_int_int .nil) 447 B.strconv_log10Pow2 (.node .nil 448 B.strconv_bool2_int .nil)) 449 B.strconv_isPowerOfTwo (.node (.node .nil 450 B.math_bits_TrailingZeros
 .nil) 451 B.math_bits_TrailingZeros32 (.node .nil 452 B.math_bits_TrailingZeros64 .nil)))))))
theorem fnT_all:fnT.All (FnOK cx):=⟨⟨⟨⟨⟨⟨⟨⟨trivial,k_math_bits_Len64,trivial⟩,k_lex_Number,trivial⟩,k_lex_numeral_whole,⟨trivial,k_lex_numeral_radix,trivial⟩⟩,k_lex_numeral_decimal,
 ⟨⟨trivial,k_strings_Builder_WriteByte,trivial⟩,k_strings_Builder_String,⟨trivial,k_strings_HasPrefix,trivial⟩⟩⟩,k_lex_count,⟨⟨⟨⟨trivial,k_lex_numeral_answer,trivial⟩,k_strings_Cut,
 trivial⟩,k_strings_ContainsAny,⟨trivial,k_lex_pattern,trivial⟩⟩,k_real_Parse,⟨⟨trivial,k_strings_Builder_copyCheck,trivial⟩,k_real_Is,⟨trivial,k_lex_digits,trivial⟩⟩⟩⟩,
 k_real_scanner_decimal,⟨⟨⟨⟨⟨trivial,k_real_front,trivial⟩,k_real_fraction,trivial⟩,k_real_double,⟨trivial,k_lex_digits_1,trivial⟩⟩,k_real_scanner_one,⟨⟨trivial,k_real_scanner_digits,
 trivial⟩,k_lex_value,⟨trivial,k_stringslite_HasPrefix,trivial⟩⟩⟩,k_real_Print,⟨⟨⟨⟨trivial,k_real_Print_1,trivial⟩,k_real_result_string,trivial⟩,k_real_whole,⟨trivial,k_real_whole_1,
 trivial⟩⟩,k_stringslite_Cut,⟨⟨trivial,k_strings_IndexAny,trivial⟩,k_strings_IndexRune,⟨trivial,k_strings_shouldUseASCIISet,trivial⟩⟩⟩⟩⟩,k_strings_makeASCIISet,⟨⟨⟨⟨⟨⟨trivial,
 k_strings_asciiSet_contains,trivial⟩,k_unicode_utf8_ValidRune,trivial⟩,k_bytealg_Cutover,⟨trivial,k_chaselaw14_LogicBack,trivial⟩⟩,k_chaselaw14_wakes,⟨⟨trivial,k_chaselaw14_i,
 trivial⟩,k_chaselaw14_b,⟨trivial,k_chaselaw14_one,trivial⟩⟩⟩,k_heap_Fits,⟨⟨⟨⟨trivial,k_object_KindName,trivial⟩,k_chaselaw14_strings,trivial⟩,k_chaselaw14_r,⟨trivial,k_logic_Do,
 trivial⟩⟩,k_chaselaw14_gives,⟨⟨trivial,k_chaselaw14_writes,trivial⟩,k_chaselaw14_fails,⟨trivial,k_logic_Text,trivial⟩⟩⟩⟩,k_chaseref10_Bool,⟨⟨⟨⟨⟨trivial,k_object_Check,trivial⟩,
 k_heap_cellKind,trivial⟩,k_heap_length,⟨trivial,k_object_kinds,trivial⟩⟩,k_logic_Do_1,⟨⟨trivial,k_logic_Do_2,trivial⟩,k_logic_Do_3,⟨trivial,k_logic_Do_4,trivial⟩⟩⟩,k_logic_judge_compare,
 ⟨⟨⟨trivial,k_logic_Do_5,trivial⟩,k_logic_Do_6,⟨trivial,k_logic_Do_7,trivial⟩⟩,k_logic_judge_bits,⟨⟨trivial,k_logic_judge_one,trivial⟩,k_logic_judge_same,⟨trivial,k_logic_judge_not,
 trivial⟩⟩⟩⟩⟩⟩,k_logic_judge_bitshift,⟨⟨⟨⟨⟨⟨⟨trivial,k_object_Bool,trivial⟩,k_stack_Push,trivial⟩,k_logic_kindOf,⟨trivial,k_logic_Do_8,trivial⟩⟩,k_logic_executable,⟨⟨trivial,
 k_logic_judge_named,trivial⟩,k_logic_converted_api_Obj,⟨trivial,k_object_ToInt,trivial⟩⟩⟩,k_object_ToReal,⟨⟨⟨⟨trivial,k_logic_judge_cvs,trivial⟩,k_logic_judge_cvrs,trivial⟩,
 k_heap_Bytes,⟨trivial,k_slices_Equal_api_Obj_api_Obj,trivial⟩⟩,k_chaseref11_Same,⟨⟨trivial,k_chaseref11_sameObjs,trivial⟩,k_logic_Text_1,⟨trivial,k_logic_Text_2,trivial⟩⟩⟩⟩,
 k_logic_Text_3,⟨⟨⟨⟨⟨trivial,k_logic_Text_4,trivial⟩,k_logic_Text_5,trivial⟩,k_object_kind_number,⟨trivial,k_object_kind_named,trivial⟩⟩,k_object_kind_referring,⟨⟨trivial,
 k_logic_judge_operands,trivial⟩,k_logic_allows,⟨trivial,k_object_Compare,trivial⟩⟩⟩,k_logic_judge_result,⟨⟨⟨⟨trivial,k_heap_Equal,trivial⟩,k_object_Name,trivial⟩,k_logic_executable_1,
 ⟨trivial,k_logic_converted_api_Obj_1,trivial⟩⟩,k_object_Value,⟨⟨trivial,k_object_Int,trivial⟩,k_object_Real,⟨trivial,k_logic_judge_put,trivial⟩⟩⟩⟩⟩,k_strconv_FormatUint,
 ⟨⟨⟨⟨⟨⟨trivial,k_heap_viewOf,trivial⟩,k_heap_view_cell,trivial⟩,k_chaseref11_SameCell,⟨trivial,k_logic_printed,trivial⟩⟩,k_object_kind_longest,⟨⟨trivial,k_stack_Top,trivial⟩,
 k_stack_Drop,⟨trivial,k_heap_octets,trivial⟩⟩⟩,k_object_Name_1,⟨⟨⟨⟨trivial,k_object_made_string,trivial⟩,k_logic_judge_number,trivial⟩,k_object_numberOf,⟨trivial,k_object_number_value,
 trivial⟩⟩,k_object_made_int,⟨⟨trivial,k_object_Int_1,trivial⟩,k_object_Real_1,⟨trivial,k_heap_Interval,trivial⟩⟩⟩⟩,k_heap_PutBytes,⟨⟨⟨⟨⟨trivial,k_istrconv_FormatUint,trivial⟩,
 k_slices_Contains_int_int,trivial⟩,k_heap_view_room,⟨trivial,k_heap_replaced_byte,trivial⟩⟩,k_heap_view_with,⟨⟨trivial,k_strconv_small,trivial⟩,k_strconv_numDigits,⟨trivial,
 k_strconv_formatBase10,trivial⟩⟩⟩,k_strconv_formatBits,⟨⟨⟨trivial,k_slices_Index_int_int,trivial⟩,k_strconv_log10Pow2,⟨trivial,k_strconv_bool2_int,trivial⟩⟩,k_strconv_isPowerOfTwo,
 ⟨⟨trivial,k_math_bits_TrailingZeros,trivial⟩,k_math_bits_TrailingZeros32,⟨trivial,k_math_bits_TrailingZeros64,trivial⟩⟩⟩⟩⟩⟩⟩
def enT:Nat→Option Entry:=fun k=>if k=384 then some B.E_strings_Compare else if k=396 then some B.E_strings_ToUpper else if k=403 then some B.E_strconv_FormatBool else if k=132 then some B.E_strconv_Itoa else if k=142 then some B.E_stringslite_Index else if k=84 then some B.E_strings_IndexByte else if k=118 then some B.E_abi_NoEscape else none
def tab:Tab:=⟨fnT.get,enT⟩
theorem has_strings_Compare:B.H_strings_Compare tab:=⟨rfl⟩
theorem has_strings_ToUpper:B.H_strings_ToUpper tab:=⟨rfl⟩
theorem has_strconv_FormatBool:B.H_strconv_FormatBool tab:=⟨rfl⟩
theorem has_strconv_Itoa:B.H_strconv_Itoa tab:=⟨rfl⟩
theorem has_stringslite_Index:B.H_stringslite_Index tab:=⟨rfl⟩
theorem has_strings_IndexByte:B.H_strings_IndexByte tab:=⟨rfl⟩
theorem has_abi_NoEscape:B.H_abi_NoEscape tab:=⟨rfl⟩
theorem has_chaselaw14_strings:B.H_chaselaw14_strings tab:=⟨rfl,rfl⟩
theorem has_chaselaw14_i:B.H_chaselaw14_i tab:=⟨rfl,rfl⟩
theorem has_chaselaw14_r:B.H_chaselaw14_r tab:=⟨rfl,rfl⟩
theorem has_logic_Do_1:B.H_logic_Do_1 tab:=⟨rfl,rfl⟩
theorem has_logic_Do_2:B.H_logic_Do_2 tab:=⟨rfl,rfl⟩
theorem has_logic_Do_3:B.H_logic_Do_3 tab:=⟨rfl,rfl⟩
theorem has_logic_Do_4:B.H_logic_Do_4 tab:=⟨rfl,rfl⟩
theorem has_logic_Do_5:B.H_logic_Do_5 tab:=⟨rfl,rfl⟩
theorem has_logic_Do_6:B.H_logic_Do_6 tab:=⟨rfl,rfl⟩
theorem has_logic_Do_7:B.H_logic_Do_7 tab:=⟨rfl,rfl⟩
theorem has_object_Bool:B.H_object_Bool tab:=⟨rfl,rfl⟩
theorem has_stack_Push:B.H_stack_Push tab:=⟨rfl,rfl⟩
theorem has_logic_Do_8:B.H_logic_Do_8 tab:=⟨rfl,rfl,has_object_Bool⟩
theorem has_chaseref10_Bool:B.H_chaseref10_Bool tab:=⟨rfl,rfl⟩
theorem has_slices_Equal_api_Obj_api_Obj:B.H_slices_Equal_api_Obj_api_Obj tab:=⟨rfl,rfl⟩
theorem has_logic_allows:B.H_logic_allows tab:=⟨rfl,rfl⟩
theorem has_logic_executable_1:B.H_logic_executable_1 tab:=⟨rfl,rfl⟩
theorem has_heap_view_cell:B.H_heap_view_cell tab:=⟨rfl,rfl⟩
theorem has_stack_Top:B.H_stack_Top tab:=⟨rfl,rfl⟩
theorem has_stack_Drop:B.H_stack_Drop tab:=⟨rfl,rfl⟩
theorem has_object_kinds:B.H_object_kinds tab:=⟨rfl,rfl⟩
theorem has_object_Name_1:B.H_object_Name_1 tab:=⟨rfl,rfl⟩
theorem has_object_number_value:B.H_object_number_value tab:=⟨rfl,rfl⟩
theorem has_object_Int_1:B.H_object_Int_1 tab:=⟨rfl,rfl⟩
theorem has_object_Real_1:B.H_object_Real_1 tab:=⟨rfl,rfl⟩
theorem has_logic_Text_1:B.H_logic_Text_1 tab:=⟨rfl,rfl⟩
theorem has_logic_Text_2:B.H_logic_Text_2 tab:=⟨rfl,rfl,has_strconv_FormatBool⟩
theorem has_logic_Text_3:B.H_logic_Text_3 tab:=⟨rfl,rfl,has_strconv_Itoa⟩
theorem has_chaseref11_sameObjs:B.H_chaseref11_sameObjs tab:=⟨rfl,rfl⟩
theorem has_object_kind_number:B.H_object_kind_number tab:=⟨rfl,rfl⟩
theorem has_object_kind_named:B.H_object_kind_named tab:=⟨rfl,rfl⟩
theorem has_heap_cellKind:B.H_heap_cellKind tab:=⟨rfl,rfl⟩
theorem has_heap_length:B.H_heap_length tab:=⟨rfl,rfl⟩
theorem has_heap_view_room:B.H_heap_view_room tab:=⟨rfl,rfl⟩
theorem has_heap_replaced_byte:B.H_heap_replaced_byte tab:=⟨rfl,rfl⟩
theorem has_heap_view_with:B.H_heap_view_with tab:=⟨rfl,rfl⟩
theorem has_strconv_small:B.H_strconv_small tab:=⟨rfl,rfl⟩
theorem has_strconv_formatBase10:B.H_strconv_formatBase10 tab:=⟨rfl,rfl⟩
theorem has_slices_Index_int_int:B.H_slices_Index_int_int tab:=⟨rfl,rfl⟩
theorem has_object_kind_longest:B.H_object_kind_longest tab:=⟨rfl,rfl⟩
theorem has_math_bits_Len64:B.H_math_bits_Len64 tab:=⟨rfl,rfl⟩
theorem has_strconv_log10Pow2:B.H_strconv_log10Pow2 tab:=⟨rfl,rfl⟩
theorem has_strconv_bool2_int:B.H_strconv_bool2_int tab:=⟨rfl,rfl⟩
theorem has_strconv_isPowerOfTwo:B.H_strconv_isPowerOfTwo tab:=⟨rfl,rfl⟩
theorem has_lex_numeral_answer:B.H_lex_numeral_answer tab:=⟨rfl,rfl⟩
theorem has_math_bits_TrailingZeros32:B.H_math_bits_TrailingZeros32 tab:=⟨rfl,rfl⟩
theorem has_math_bits_TrailingZeros64:B.H_math_bits_TrailingZeros64 tab:=⟨rfl,rfl⟩
theorem has_stringslite_HasPrefix:B.H_stringslite_HasPrefix tab:=⟨rfl,rfl⟩
theorem has_stringslite_Cut:B.H_stringslite_Cut tab:=⟨rfl,rfl,has_stringslite_Index⟩
theorem has_real_front:B.H_real_front tab:=⟨rfl,rfl⟩
theorem has_real_fraction:B.H_real_fraction tab:=⟨rfl,rfl⟩
theorem has_real_double:B.H_real_double tab:=⟨rfl,rfl⟩
theorem has_real_Is:B.H_real_Is tab:=⟨rfl,rfl⟩
theorem has_strings_Builder_String:B.H_strings_Builder_String tab:=⟨rfl,rfl⟩
theorem has_strings_shouldUseASCIISet:B.H_strings_shouldUseASCIISet tab:=⟨rfl,rfl⟩
theorem has_strings_makeASCIISet:B.H_strings_makeASCIISet tab:=⟨rfl,rfl⟩
theorem has_strings_asciiSet_contains:B.H_strings_asciiSet_contains tab:=⟨rfl,rfl⟩
theorem has_real_scanner_one:B.H_real_scanner_one tab:=⟨rfl,rfl⟩
theorem has_real_scanner_digits:B.H_real_scanner_digits tab:=⟨rfl,rfl,has_real_scanner_one⟩
theorem has_strings_Builder_copyCheck:B.H_strings_Builder_copyCheck tab:=⟨rfl,rfl,has_abi_NoEscape⟩
theorem has_real_whole_1:B.H_real_whole_1 tab:=⟨rfl,rfl⟩
theorem has_lex_value:B.H_lex_value tab:=⟨rfl,rfl⟩
theorem has_unicode_utf8_ValidRune:B.H_unicode_utf8_ValidRune tab:=⟨rfl,rfl⟩
theorem has_bytealg_Cutover:B.H_bytealg_Cutover tab:=⟨rfl,rfl⟩
theorem has_chaselaw14_b:B.H_chaselaw14_b tab:=⟨rfl,rfl,has_chaseref10_Bool⟩
theorem has_logic_executable:B.H_logic_executable tab:=⟨rfl,rfl,has_logic_executable_1⟩
theorem has_logic_judge_operands:B.H_logic_judge_operands tab:=⟨rfl,rfl,has_stack_Top,has_logic_allows⟩
theorem has_logic_judge_result:B.H_logic_judge_result tab:=⟨rfl,rfl,has_stack_Drop,has_stack_Push⟩
theorem has_chaseref11_SameCell:B.H_chaseref11_SameCell tab:=⟨rfl,rfl,has_chaseref11_sameObjs⟩
theorem has_slices_Contains_int_int:B.H_slices_Contains_int_int tab:=⟨rfl,rfl,has_slices_Index_int_int⟩
theorem has_object_kind_referring:B.H_object_kind_referring tab:=⟨rfl,rfl,has_object_kind_longest⟩
theorem has_strconv_numDigits:B.H_strconv_numDigits tab:=⟨rfl,rfl,has_math_bits_Len64,has_strconv_log10Pow2,has_strconv_bool2_int⟩
theorem has_math_bits_TrailingZeros:B.H_math_bits_TrailingZeros tab:=⟨rfl,rfl,has_math_bits_TrailingZeros32,has_math_bits_TrailingZeros64⟩
theorem has_strings_HasPrefix:B.H_strings_HasPrefix tab:=⟨rfl,rfl,has_stringslite_HasPrefix⟩
theorem has_strings_Cut:B.H_strings_Cut tab:=⟨rfl,rfl,has_stringslite_Cut⟩
theorem has_real_result_string:B.H_real_result_string tab:=⟨rfl,rfl,has_real_Is⟩
theorem has_real_scanner_decimal:B.H_real_scanner_decimal tab:=⟨rfl,rfl,has_real_scanner_one,has_real_scanner_digits⟩
theorem has_strings_Builder_WriteByte:B.H_strings_Builder_WriteByte tab:=⟨rfl,rfl,has_strings_Builder_copyCheck⟩
theorem has_real_whole:B.H_real_whole tab:=⟨rfl,rfl,has_real_whole_1⟩
theorem has_lex_digits_1:B.H_lex_digits_1 tab:=⟨rfl,rfl,has_lex_value⟩
theorem has_strings_IndexRune:B.H_strings_IndexRune tab:=⟨rfl,rfl,has_strings_IndexByte,has_unicode_utf8_ValidRune,has_bytealg_Cutover⟩
theorem has_logic_judge_bits:B.H_logic_judge_bits tab:=⟨rfl,rfl,has_logic_judge_operands,has_logic_judge_result⟩
theorem has_logic_judge_one:B.H_logic_judge_one tab:=⟨rfl,rfl,has_logic_judge_operands,has_logic_judge_result⟩
theorem has_logic_judge_not:B.H_logic_judge_not tab:=⟨rfl,rfl,has_logic_judge_operands,has_logic_judge_result⟩
theorem has_logic_judge_bitshift:B.H_logic_judge_bitshift tab:=⟨rfl,rfl,has_logic_judge_operands,has_logic_judge_result⟩
theorem has_chaseref11_Same:B.H_chaseref11_Same tab:=⟨rfl,rfl,has_chaseref11_SameCell⟩
theorem has_object_Check:B.H_object_Check tab:=⟨rfl,rfl,has_object_kinds,has_object_kind_number,has_object_kind_named,has_object_kind_referring⟩
theorem has_heap_Fits:B.H_heap_Fits tab:=⟨rfl,rfl,has_object_Check,has_heap_cellKind,has_heap_length⟩
theorem has_object_made_string:B.H_object_made_string tab:=⟨rfl,rfl,has_object_Check⟩
theorem has_object_numberOf:B.H_object_numberOf tab:=⟨rfl,rfl,has_object_Check⟩
theorem has_object_made_int:B.H_object_made_int tab:=⟨rfl,rfl,has_object_Check⟩
theorem has_heap_Interval:B.H_heap_Interval tab:=⟨rfl,rfl,has_object_Check⟩
theorem has_strconv_formatBits:B.H_strconv_formatBits tab:=⟨rfl,rfl,has_strconv_isPowerOfTwo,has_math_bits_TrailingZeros⟩
theorem has_real_Parse:B.H_real_Parse tab:=⟨rfl,rfl,has_real_scanner_decimal,has_real_front,has_real_fraction,has_real_double,has_real_Is⟩
theorem has_real_Print_1:B.H_real_Print_1 tab:=⟨rfl,rfl,has_strings_Builder_WriteByte,has_real_whole,has_strings_Builder_String⟩
theorem has_lex_digits:B.H_lex_digits tab:=⟨rfl,rfl,has_lex_digits_1⟩
theorem has_strings_IndexAny:B.H_strings_IndexAny tab:=⟨rfl,rfl,has_strings_IndexRune,has_strings_shouldUseASCIISet,has_strings_makeASCIISet,has_strings_asciiSet_contains⟩
theorem has_object_KindName:B.H_object_KindName tab:=⟨rfl,rfl,has_object_Check,has_object_kinds⟩
theorem has_object_Name:B.H_object_Name tab:=⟨rfl,rfl,has_object_Name_1,has_object_made_string⟩
theorem has_object_Value:B.H_object_Value tab:=⟨rfl,rfl,has_object_numberOf,has_object_number_value⟩
theorem has_object_Int:B.H_object_Int tab:=⟨rfl,rfl,has_object_made_int,has_object_Int_1⟩
theorem has_object_Real:B.H_object_Real tab:=⟨rfl,rfl,has_object_made_int,has_object_Real_1⟩
theorem has_heap_viewOf:B.H_heap_viewOf tab:=⟨rfl,rfl,has_heap_Fits,has_slices_Contains_int_int⟩
theorem has_heap_PutBytes:B.H_heap_PutBytes tab:=⟨rfl,rfl,has_heap_viewOf,has_heap_view_room,has_heap_view_cell,has_heap_replaced_byte,has_heap_view_with⟩
theorem has_istrconv_FormatUint:B.H_istrconv_FormatUint tab:=⟨rfl,rfl,has_strconv_small,has_strconv_numDigits,has_strconv_formatBase10,has_strconv_formatBits⟩
theorem has_real_Print:B.H_real_Print tab:=⟨rfl,rfl,has_real_Print_1,has_real_result_string⟩
theorem has_lex_count:B.H_lex_count tab:=⟨rfl,rfl,has_lex_digits⟩
theorem has_strings_ContainsAny:B.H_strings_ContainsAny tab:=⟨rfl,rfl,has_strings_IndexAny⟩
theorem has_lex_pattern:B.H_lex_pattern tab:=⟨rfl,rfl,has_real_Parse⟩
theorem has_logic_kindOf:B.H_logic_kindOf tab:=⟨rfl,rfl,has_object_KindName,has_object_Name⟩
theorem has_object_ToInt:B.H_object_ToInt tab:=⟨rfl,rfl,has_object_Value,has_object_Int⟩
theorem has_object_ToReal:B.H_object_ToReal tab:=⟨rfl,rfl,has_object_Value,has_object_Real⟩
theorem has_heap_Bytes:B.H_heap_Bytes tab:=⟨rfl,rfl,has_heap_viewOf,has_heap_view_cell⟩
theorem has_object_Compare:B.H_object_Compare tab:=⟨rfl,rfl,has_object_Check,has_object_Value⟩
theorem has_logic_judge_put:B.H_logic_judge_put tab:=⟨rfl,rfl,has_heap_Interval,has_heap_PutBytes,has_logic_judge_result⟩
theorem has_strconv_FormatUint:B.H_strconv_FormatUint tab:=⟨rfl,rfl,has_istrconv_FormatUint⟩
theorem has_heap_octets:B.H_heap_octets tab:=⟨rfl,rfl,has_heap_Bytes⟩
theorem has_logic_Text_5:B.H_logic_Text_5 tab:=⟨rfl,rfl,has_heap_Bytes⟩
theorem has_logic_printed:B.H_logic_printed tab:=⟨rfl,rfl,has_real_Print⟩
theorem has_lex_numeral_whole:B.H_lex_numeral_whole tab:=⟨rfl,rfl,has_strings_HasPrefix,has_lex_count,has_lex_numeral_answer⟩
theorem has_lex_numeral_radix:B.H_lex_numeral_radix tab:=⟨rfl,rfl,has_strings_Cut,has_lex_count,has_lex_numeral_answer⟩
theorem has_lex_numeral_decimal:B.H_lex_numeral_decimal tab:=⟨rfl,rfl,has_strings_ContainsAny,has_lex_pattern,has_real_Parse⟩
theorem has_logic_judge_compare:B.H_logic_judge_compare tab:=⟨rfl,rfl,has_logic_judge_operands,has_logic_allows,has_heap_Bytes,has_strings_Compare,has_object_Compare,has_object_Bool,has_logic_judge_result⟩
theorem has_logic_judge_named:B.H_logic_judge_named tab:=⟨rfl,rfl,has_heap_Bytes,has_object_Name⟩
theorem has_heap_Equal:B.H_heap_Equal tab:=⟨rfl,rfl,has_heap_Fits,has_object_Compare,has_heap_octets⟩
theorem has_logic_Text_4:B.H_logic_Text_4 tab:=⟨rfl,rfl,has_logic_printed⟩
theorem has_lex_Number:B.H_lex_Number tab:=⟨rfl,rfl,has_lex_numeral_whole,has_lex_numeral_radix,has_lex_numeral_decimal⟩
theorem has_logic_judge_same:B.H_logic_judge_same tab:=⟨rfl,rfl,has_logic_judge_operands,has_heap_Equal,has_object_Bool,has_logic_judge_result⟩
theorem has_logic_Text:B.H_logic_Text tab:=⟨rfl,rfl,has_heap_Fits,has_logic_Text_1,has_logic_Text_2,has_logic_Text_3,has_logic_Text_4,has_logic_Text_5⟩
theorem has_logic_judge_number:B.H_logic_judge_number tab:=⟨rfl,rfl,has_heap_Bytes,has_lex_Number,has_object_Real,has_object_Int⟩
theorem has_logic_judge_cvs:B.H_logic_judge_cvs tab:=⟨rfl,rfl,has_logic_judge_operands,has_logic_Text,has_logic_judge_put⟩
theorem has_logic_judge_cvrs:B.H_logic_judge_cvrs tab:=⟨rfl,rfl,has_logic_judge_operands,has_logic_Text,has_object_ToInt,has_strconv_FormatUint,has_strings_ToUpper,has_logic_judge_put⟩
theorem has_logic_converted_api_Obj_1:B.H_logic_converted_api_Obj_1 tab:=⟨rfl,rfl,has_logic_judge_number⟩
theorem has_logic_converted_api_Obj:B.H_logic_converted_api_Obj tab:=⟨rfl,rfl,has_logic_converted_api_Obj_1⟩
theorem has_logic_Do:B.H_logic_Do tab:=⟨rfl,rfl,has_logic_Do_1,has_logic_Do_2,has_logic_Do_3,has_logic_Do_4,has_logic_judge_compare,has_logic_Do_5,has_logic_Do_6,has_logic_Do_7,has_logic_judge_bits,has_logic_judge_one,has_logic_judge_same,has_logic_judge_not,has_logic_judge_bitshift,has_object_Bool,has_stack_Push,has_logic_kindOf,has_logic_Do_8,has_logic_executable,has_logic_judge_named,has_logic_converted_api_Obj,has_object_ToInt,has_object_ToReal,has_logic_judge_cvs,has_logic_judge_cvrs⟩
theorem has_chaselaw14_one:B.H_chaselaw14_one tab:=⟨rfl,rfl,has_logic_Do⟩
theorem has_chaselaw14_gives:B.H_chaselaw14_gives tab:=⟨rfl,rfl,has_logic_Do⟩
theorem has_chaselaw14_writes:B.H_chaselaw14_writes tab:=⟨rfl,rfl,has_logic_Do,has_heap_Bytes⟩
theorem has_chaselaw14_fails:B.H_chaselaw14_fails tab:=⟨rfl,rfl,has_logic_Do,has_slices_Equal_api_Obj_api_Obj,has_chaseref11_Same⟩
theorem has_chaselaw14_wakes:B.H_chaselaw14_wakes tab:=⟨rfl,rfl,has_chaselaw14_strings,has_chaselaw14_b,has_chaselaw14_i,has_chaselaw14_r,has_chaselaw14_gives,has_chaselaw14_writes,has_chaselaw14_fails⟩
theorem has_chaselaw14_LogicBack:B.H_chaselaw14_LogicBack tab:=⟨rfl,rfl,has_chaselaw14_wakes,has_chaselaw14_strings,has_chaselaw14_i,has_chaselaw14_r,has_logic_Do,has_chaselaw14_one⟩
theorem tabOK_all (ok384:EntryOK chkD cx 384 B.E_strings_Compare) (ok396:EntryOK chkD cx 396 B.E_strings_ToUpper) (ok403:EntryOK chkD cx 403 B.E_strconv_FormatBool) (ok132:EntryOK chkD cx 132 B.E_strconv_Itoa) (ok142:EntryOK chkD cx 142 B.E_stringslite_Index) (ok84:EntryOK chkD cx 84 B.E_strings_IndexByte) (ok118:EntryOK chkD cx 118 B.E_abi_NoEscape):TabOK chkD cx tab:=tabOK_of fnT_all (fun f F h=>by
 simp only[enT]at h
 by_cases e384:f=384
 ·subst e384;simp only[if_true,Option.some.injEq]at h;subst h;exact ok384
 rw[if_neg e384]at h
 by_cases e396:f=396
 ·subst e396;simp only[if_true,Option.some.injEq]at h;subst h;exact ok396
 rw[if_neg e396]at h
 by_cases e403:f=403
 ·subst e403;simp only[if_true,Option.some.injEq]at h;subst h;exact ok403
 rw[if_neg e403]at h
 by_cases e132:f=132
 ·subst e132;simp only[if_true,Option.some.injEq]at h;subst h;exact ok132
 rw[if_neg e132]at h
 by_cases e142:f=142
 ·subst e142;simp only[if_true,Option.some.injEq]at h;subst h;exact ok142
 rw[if_neg e142]at h
 by_cases e84:f=84
 ·subst e84;simp only[if_true,Option.some.injEq]at h;subst h;exact ok84
 rw[if_neg e84]at h
 by_cases e118:f=118
 ·subst e118;simp only[if_true,Option.some.injEq]at h;subst h;exact ok118
 rw[if_neg e118]at h
 cases h)
end Go.Ev.LogicBack

/- DERIVED: THE SHELF's CONTRACTS AT THIS DUMP, IN PLAIN WORDS (tools/lay-plain.mjs out of 'TryzShelf.lean', which tools/lay-shelf.mjs wrote): THE SAME DECLARATIONS UNDER THE SAME NAMES: 'import', 'namespace', 'open', 'def', 'theorem' AND NOTHING ELSE: no command of the shelf's: FOR A HAND-IN. Each laying: the table of numbers ('.._ren') and one theorem, a field a fact of the dump's own or the kernel's comparison; each contract: ONE APPLICATION. -/
namespace Go.Proofs
open Go.Shelf
def Tryz.lays158_ren:Go.Shelf.Ren:=⟨fun | 158=>108 | 165=>148 | 166=>149 | 167=>150 | 169=>151 | 230=>152 | 203=>153 | 240=>175 | 241=>176 | 197=>177 | 118=>178 | 168=>179 | 270=>180 | 262=>181 | 276=>201 | 277=>202 | 260=>203 | 242=>204 | 313=>205 | 278=>223 | 274=>224 | 275=>225 | n=>n,fun | 9=>9 | 4=>4 | 3=>3 | 5=>5 | 72=>200 | 0=>0 | 76=>204 | 75=>203 | 107=>209 | 70=>198 | 20=>20 | 37=>23 | 127=>226 | 21=>21 | 105=>227 | 164=>251 | 162=>257 | 203=>255 | 119=>277 | 46=>73 | 139=>280 | 138=>279 | 51=>152 | 160=>281 | 208=>294 | 206=>292 | 80=>207 | n=>n,fun | 13=>2 | 3=>4 | 4=>5 | n=>n⟩
theorem Tryz.lays158:Go.Proofs.Lays.n158 Tryz.prog Tryz.lays158_ren:={
 mixed:=by kernel_rfl
 f118:=Tryz.func178.trans (congrArg some (by kernel_rfl))
 f158:=Tryz.func108.trans (congrArg some (by kernel_rfl))
 f165:=Tryz.func148.trans (congrArg some (by kernel_rfl))
 f166:=Tryz.func149.trans (congrArg some (by kernel_rfl))
 f167:=Tryz.func150.trans (congrArg some (by kernel_rfl))
 f168:=Tryz.func179.trans (congrArg some (by kernel_rfl))
 f169:=Tryz.func151.trans (congrArg some (by kernel_rfl))
 f197:=Tryz.func177.trans (congrArg some (by kernel_rfl))
 f203:=Tryz.func153.trans (congrArg some (by kernel_rfl))
 f230:=Tryz.func152.trans (congrArg some (by kernel_rfl))
 f240:=Tryz.func175.trans (congrArg some (by kernel_rfl))
 f241:=Tryz.func176.trans (congrArg some (by kernel_rfl))
 f242:=Tryz.func204.trans (congrArg some (by kernel_rfl))
 f260:=Tryz.func203.trans (congrArg some (by kernel_rfl))
 f262:=Tryz.func181.trans (congrArg some (by kernel_rfl))
 f270:=Tryz.func180.trans (congrArg some (by kernel_rfl))
 f274:=Tryz.func224.trans (congrArg some (by kernel_rfl))
 f275:=Tryz.func225.trans (congrArg some (by kernel_rfl))
 f276:=Tryz.func201.trans (congrArg some (by kernel_rfl))
 f277:=Tryz.func202.trans (congrArg some (by kernel_rfl))
 f278:=Tryz.func223.trans (congrArg some (by kernel_rfl))
 f313:=Tryz.func205.trans (congrArg some (by kernel_rfl))
 t0:=Tryz.underlying0
 a0:=Tryz.isAgg0
 z0:=Tryz.sizeOf0
 v0:=Tryz.zeroValue0
 t3:=Tryz.underlying3
 a3:=Tryz.isAgg3
 z3:=Tryz.sizeOf3
 v3:=Tryz.zeroValue3
 t4:=Tryz.underlying4
 a4:=Tryz.isAgg4
 z4:=Tryz.sizeOf4
 v4:=Tryz.zeroValue4
 t5:=Tryz.underlying5
 a5:=Tryz.isAgg5
 z5:=Tryz.sizeOf5
 v5:=Tryz.zeroValue5
 t9:=Tryz.underlying9
 a9:=Tryz.isAgg9
 z9:=Tryz.sizeOf9
 v9:=Tryz.zeroValue9
 t20:=Tryz.underlying20
 a20:=Tryz.isAgg20
 z20:=Tryz.sizeOf20
 v20:=Tryz.zeroValue20
 t21:=Tryz.underlying21
 a21:=Tryz.isAgg21
 z21:=Tryz.sizeOf21
 v21:=Tryz.zeroValue21
 t37:=Tryz.underlying23
 a37:=Tryz.isAgg23
 z37:=Tryz.sizeOf23
 v37:=Tryz.zeroValue23
 t46:=Tryz.underlying73
 a46:=Tryz.isAgg73
 z46:=Tryz.sizeOf73
 v46:=Tryz.zeroValue73
 t51:=Tryz.underlying152
 a51:=Tryz.isAgg152
 z51:=Tryz.sizeOf152
 v51:=Tryz.zeroValue152
 t70:=Tryz.underlying198
 a70:=Tryz.isAgg198
 z70:=Tryz.sizeOf198
 v70:=Tryz.zeroValue198
 t72:=Tryz.underlying200
 a72:=Tryz.isAgg200
 z72:=Tryz.sizeOf200
 v72:=Tryz.zeroValue200
 t75:=Tryz.underlying203
 a75:=Tryz.isAgg203
 z75:=Tryz.sizeOf203
 v75:=Tryz.zeroValue203
 t76:=Tryz.underlying204
 a76:=Tryz.isAgg204
 z76:=Tryz.sizeOf204
 v76:=Tryz.zeroValue204
 t105:=Tryz.underlying227
 a105:=Tryz.isAgg227
 z105:=Tryz.sizeOf227
 v105:=Tryz.zeroValue227
 t107:=Tryz.underlying209
 a107:=Tryz.isAgg209
 z107:=Tryz.sizeOf209
 v107:=Tryz.zeroValue209
 t119:=Tryz.underlying277
 a119:=Tryz.isAgg277
 z119:=Tryz.sizeOf277
 t127:=Tryz.underlying226
 a127:=Tryz.isAgg226
 z127:=Tryz.sizeOf226
 v127:=Tryz.zeroValue226
 t138:=Tryz.underlying279
 a138:=Tryz.isAgg279
 z138:=Tryz.sizeOf279
 v138:=Tryz.zeroValue279
 t139:=Tryz.underlying280
 a139:=Tryz.isAgg280
 z139:=Tryz.sizeOf280
 v139:=Tryz.zeroValue280
 t160:=Tryz.underlying281
 a160:=Tryz.isAgg281
 z160:=Tryz.sizeOf281
 v160:=Tryz.zeroValue281
 t162:=Tryz.underlying257
 a162:=Tryz.isAgg257
 z162:=Tryz.sizeOf257
 v162:=Tryz.zeroValue257
 t164:=Tryz.underlying251
 a164:=Tryz.isAgg251
 z164:=Tryz.sizeOf251
 v164:=Tryz.zeroValue251
 t203:=Tryz.underlying255
 a203:=Tryz.isAgg255
 z203:=Tryz.sizeOf255
 v203:=Tryz.zeroValue255
 t206:=Tryz.underlying292
 a206:=Tryz.isAgg292
 z206:=Tryz.sizeOf292
 v206:=Tryz.zeroValue292
 t208:=Tryz.underlying294
 a208:=Tryz.isAgg294
 z208:=Tryz.sizeOf294
 v208:=Tryz.zeroValue294
 g3:=by kernel_rfl
 g4:=by kernel_rfl
 g13:=by kernel_rfl}
theorem Tryz.Builder_Extra_158:Builder.Extra Tryz.prog Tryz.lays158_ren:={
 sizeBuilder:=by kernel_rfl
 liesBuilder:=by kernel_rfl
 t5:=Tryz.underlying5
 a5:=Tryz.isAgg5
 z5:=Tryz.sizeOf5
 v5:=Tryz.zeroValue5
 infoByte:=by kernel_rfl
 cellsByte:=by kernel_rfl
 sizeByte:=by kernel_rfl
 neB5:=by decide}
open Go.RowKit in
theorem Tryz.strings_ToUpper_ascii (s:ByteArray) (w:World) (hs:s.size≤140737488355328) (hascii:∀(j:Nat) (b:UInt8),s.data.toList[j]? =some b→b.toNat<128):
  Calls Tryz.prog 108 #[.string s] w fun e w'=>e= .returned (.string ⟨(Lib.toUpperA s.data.toList).toArray⟩)∧Below w.heap.size w w':=Any.strings_ToUpper_ascii Tryz.lays158 Tryz.Builder_Extra_158 s w hs hascii
def Tryz.lays106_ren:Go.Shelf.Ren:=⟨fun | 106=>96 | 213=>135 | 265=>168 | n=>n,fun | 9=>9 | 3=>3 | n=>n,fun | n=>n⟩
theorem Tryz.lays106:Go.Proofs.Lays.n106 Tryz.prog Tryz.lays106_ren:={
 mixed:=by kernel_rfl
 f106:=Tryz.func96.trans (congrArg some (by kernel_rfl))
 f213:=Tryz.func135.trans (congrArg some (by kernel_rfl))
 f265:=Tryz.func168.trans (congrArg some (by kernel_rfl))
 t3:=Tryz.underlying3
 a3:=Tryz.isAgg3
 z3:=Tryz.sizeOf3
 v3:=Tryz.zeroValue3
 t9:=Tryz.underlying9
 a9:=Tryz.isAgg9
 z9:=Tryz.sizeOf9
 v9:=Tryz.zeroValue9}
open Go.RowKit in
theorem Tryz.strings_Compare (a b:ByteArray) (w:World):
  Calls Tryz.prog 96 #[.string a,.string b] w fun e w'=>e= .returned (.int .i64 (Lib.compareBytes a.data.toList b.data.toList))∧w'=w:=Any.strings_Compare Tryz.lays106 a b w
def Tryz.lays137_ren:Go.Shelf.Ren:=⟨fun | 137=>241 | 217=>237 | 266=>243 | n=>n,fun | 9=>9 | 5=>5 | 3=>3 | n=>n,fun | n=>n⟩
theorem Tryz.lays137:Go.Proofs.Lays.n137 Tryz.prog Tryz.lays137_ren:={
 mixed:=by kernel_rfl
 f137:=Tryz.func241.trans (congrArg some (by kernel_rfl))
 f217:=Tryz.func237.trans (congrArg some (by kernel_rfl))
 f266:=Tryz.func243.trans (congrArg some (by kernel_rfl))
 t3:=Tryz.underlying3
 a3:=Tryz.isAgg3
 z3:=Tryz.sizeOf3
 v3:=Tryz.zeroValue3
 t5:=Tryz.underlying5
 a5:=Tryz.isAgg5
 z5:=Tryz.sizeOf5
 v5:=Tryz.zeroValue5
 t9:=Tryz.underlying9
 a9:=Tryz.isAgg9
 z9:=Tryz.sizeOf9
 v9:=Tryz.zeroValue9}
open Go.RowKit in
theorem Tryz.strings_IndexByte (s:ByteArray) (c:Int) (w:World):
  Calls Tryz.prog 241 #[.string s,.int .u8 c] w fun e w'=>e= .returned (.int .i64 (Lib.indexByte s.data.toList c.toNat.toUInt8))∧w'=w:=Any.strings_IndexByte Tryz.lays137 s c w
def Tryz.lays121_ren:Go.Shelf.Ren:=⟨fun | 121=>80 | 214=>123 | n=>n,fun | 4=>4 | 9=>9 | n=>n,fun | n=>n⟩
theorem Tryz.lays121:Go.Proofs.Lays.n121 Tryz.prog Tryz.lays121_ren:={
 mixed:=by kernel_rfl
 f121:=Tryz.func80.trans (congrArg some (by kernel_rfl))
 f214:=Tryz.func123.trans (congrArg some (by kernel_rfl))
 t4:=Tryz.underlying4
 a4:=Tryz.isAgg4
 z4:=Tryz.sizeOf4
 v4:=Tryz.zeroValue4
 t9:=Tryz.underlying9
 a9:=Tryz.isAgg9
 z9:=Tryz.sizeOf9
 v9:=Tryz.zeroValue9}
open Go.RowKit in
theorem Tryz.strconv_FormatBool (b:Bool) (w:World):
  Calls Tryz.prog 80 #[.bool b] w fun e w'=>e= .returned (.string ⟨(Lib.formatBool b).toArray⟩)∧w'=w:=Any.strconv_FormatBool Tryz.lays121 b w
def Tryz.laysM171_ren:Go.Shelf.Ren:=⟨fun | 171=>82 | 243=>124 | 246=>162 | 283=>182 | 284=>183 | 285=>184 | 286=>185 | 129=>207 | 317=>206 | 318=>208 | 319=>209 | 320=>210 | 337=>226 | 338=>227 | n=>n,fun | 3=>3 | 9=>9 | 2=>2 | 4=>4 | 171=>232 | 0=>0 | 53=>159 | 37=>23 | 5=>5 | 173=>235 | 212=>259 | 51=>152 | 20=>20 | 213=>260 | 46=>73 | 232=>295 | 233=>296 | n=>n,fun | 17=>3 | 18=>6 | 19=>7 | n=>n⟩
theorem Tryz.laysM171:Go.Proofs.LaysM.n171 Tryz.prog Tryz.laysM171_ren:={
 mixed:=by kernel_rfl
 f129:=Tryz.func207.trans (congrArg some (by kernel_rfl))
 f171:=Tryz.func82.trans (congrArg some (by kernel_rfl))
 f243:=Tryz.func124.trans (congrArg some (by kernel_rfl))
 f246:=Tryz.func162.trans (congrArg some (by kernel_rfl))
 f283:=Tryz.func182.trans (congrArg some (by kernel_rfl))
 f284:=Tryz.func183.trans (congrArg some (by kernel_rfl))
 f285:=Tryz.func184.trans (congrArg some (by kernel_rfl))
 f286:=Tryz.func185.trans (congrArg some (by kernel_rfl))
 f317:=Tryz.func206.trans (congrArg some (by kernel_rfl))
 f318:=Tryz.func208.trans (congrArg some (by kernel_rfl))
 f319:=Tryz.func209.trans (congrArg some (by kernel_rfl))
 f320:=Tryz.func210.trans (congrArg some (by kernel_rfl))
 f337:=Tryz.func226.trans (congrArg some (by kernel_rfl))
 f338:=Tryz.func227.trans (congrArg some (by kernel_rfl))
 t0:=Tryz.underlying0
 a0:=Tryz.isAgg0
 z0:=Tryz.sizeOf0
 v0:=Tryz.zeroValue0
 t2:=Tryz.underlying2
 a2:=Tryz.isAgg2
 z2:=Tryz.sizeOf2
 v2:=Tryz.zeroValue2
 t3:=Tryz.underlying3
 a3:=Tryz.isAgg3
 z3:=Tryz.sizeOf3
 v3:=Tryz.zeroValue3
 t4:=Tryz.underlying4
 a4:=Tryz.isAgg4
 z4:=Tryz.sizeOf4
 v4:=Tryz.zeroValue4
 t5:=Tryz.underlying5
 a5:=Tryz.isAgg5
 z5:=Tryz.sizeOf5
 v5:=Tryz.zeroValue5
 t9:=Tryz.underlying9
 a9:=Tryz.isAgg9
 z9:=Tryz.sizeOf9
 v9:=Tryz.zeroValue9
 t20:=Tryz.underlying20
 a20:=Tryz.isAgg20
 z20:=Tryz.sizeOf20
 v20:=Tryz.zeroValue20
 t37:=Tryz.underlying23
 a37:=Tryz.isAgg23
 z37:=Tryz.sizeOf23
 v37:=Tryz.zeroValue23
 t46:=Tryz.underlying73
 a46:=Tryz.isAgg73
 z46:=Tryz.sizeOf73
 v46:=Tryz.zeroValue73
 t51:=Tryz.underlying152
 a51:=Tryz.isAgg152
 z51:=Tryz.sizeOf152
 v51:=Tryz.zeroValue152
 t53:=Tryz.underlying159
 a53:=Tryz.isAgg159
 z53:=Tryz.sizeOf159
 v53:=Tryz.zeroValue159
 t171:=Tryz.underlying232
 a171:=Tryz.isAgg232
 z171:=Tryz.sizeOf232
 v171:=Tryz.zeroValue232
 t173:=Tryz.underlying235
 a173:=Tryz.isAgg235
 z173:=Tryz.sizeOf235
 v173:=Tryz.zeroValue235
 t212:=Tryz.underlying259
 a212:=Tryz.isAgg259
 z212:=Tryz.sizeOf259
 v212:=Tryz.zeroValue259
 t213:=Tryz.underlying260
 a213:=Tryz.isAgg260
 z213:=Tryz.sizeOf260
 t232:=Tryz.underlying295
 a232:=Tryz.isAgg295
 z232:=Tryz.sizeOf295
 v232:=Tryz.zeroValue295
 t233:=Tryz.underlying296
 a233:=Tryz.isAgg296
 z233:=Tryz.sizeOf296
 v233:=Tryz.zeroValue296
 g17:=by kernel_rfl
 g18:=by kernel_rfl
 g19:=by kernel_rfl
 i0:=by kernel_rfl
 i2:=by kernel_rfl
 i3:=by kernel_rfl
 i4:=by kernel_rfl
 i5:=by kernel_rfl
 i9:=by kernel_rfl
 i20:=by kernel_rfl
 i37:=by kernel_rfl
 i46:=by kernel_rfl
 i51:=by kernel_rfl
 i53:=by kernel_rfl
 i171:=by kernel_rfl
 i173:=by kernel_rfl
 i212:=by kernel_rfl
 i232:=by kernel_rfl
 i233:=by kernel_rfl
 m17:=by kernel_rfl
 m18:=by kernel_rfl
 m19:=by kernel_rfl}
open Go.RowKit Go.Sort Go.Lib in
theorem Tryz.strconv_Itoa (n:Int) (h0: -9223372036854775808≤n) (h1:n≤9223372036854775807) (w:World) (htab:Lib.TabIs Tryz.prog w "internal/strconv.uint64pow10" .u64 Lib.pow10Tab):
  Calls Tryz.prog 82 #[.int .i64 n] w fun e w'=>e= .returned (.string ⟨(Lib.itoa n).toArray⟩)∧∃k os,w'=grow (w.drewN k) os:=Any.strconv_Itoa Tryz.laysM171 n h0 h1 w htab
def Tryz.lays219_ren:Go.Shelf.Ren:=⟨fun | 219=>230 | 217=>237 | 225=>238 | 224=>239 | 267=>240 | 266=>243 | 314=>244 | n=>n,fun | 9=>9 | 3=>3 | 4=>4 | 5=>5 | 46=>73 | 146=>299 | 51=>152 | n=>n,fun | 1=>1 | n=>n⟩
theorem Tryz.lays219:Go.Proofs.Lays.n219 Tryz.prog Tryz.lays219_ren:={
 mixed:=by kernel_rfl
 f217:=Tryz.func237.trans (congrArg some (by kernel_rfl))
 f219:=Tryz.func230.trans (congrArg some (by kernel_rfl))
 f224:=Tryz.func239.trans (congrArg some (by kernel_rfl))
 f225:=Tryz.func238.trans (congrArg some (by kernel_rfl))
 f266:=Tryz.func243.trans (congrArg some (by kernel_rfl))
 f267:=Tryz.func240.trans (congrArg some (by kernel_rfl))
 f314:=Tryz.func244.trans (congrArg some (by kernel_rfl))
 t3:=Tryz.underlying3
 a3:=Tryz.isAgg3
 z3:=Tryz.sizeOf3
 v3:=Tryz.zeroValue3
 t4:=Tryz.underlying4
 a4:=Tryz.isAgg4
 z4:=Tryz.sizeOf4
 v4:=Tryz.zeroValue4
 t5:=Tryz.underlying5
 a5:=Tryz.isAgg5
 z5:=Tryz.sizeOf5
 v5:=Tryz.zeroValue5
 t9:=Tryz.underlying9
 a9:=Tryz.isAgg9
 z9:=Tryz.sizeOf9
 v9:=Tryz.zeroValue9
 t46:=Tryz.underlying73
 a46:=Tryz.isAgg73
 z46:=Tryz.sizeOf73
 v46:=Tryz.zeroValue73
 t51:=Tryz.underlying152
 a51:=Tryz.isAgg152
 z51:=Tryz.sizeOf152
 v51:=Tryz.zeroValue152
 t146:=Tryz.underlying299
 a146:=Tryz.isAgg299
 z146:=Tryz.sizeOf299
 v146:=Tryz.zeroValue299
 g1:=by kernel_rfl}
open Go.RowKit Go.Lib in
theorem Tryz.stringslite_Index_one (s:ByteArray) (c:UInt8) (w:World):
  Calls Tryz.prog 230 #[.string s,.string ⟨#[c]⟩] w fun e w'=>e= .returned (.int .i64 (Lib.indexByte s.data.toList c))∧w'=w:=Any.stringslite_Index_one Tryz.lays219 s c w
end Go.Proofs
