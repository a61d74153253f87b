/- Numbers written in a base. -/
import Derived.Test.YtdlhjfmakdbmkaaGreatDoorP07
import Derived.Test.YtdlhjfmakdbmkaaGreatDoorP05
import Derived.Lib.Join
import Derived.KernelRfl
set_option linter.unusedSimpArgs false
set_option linter.unusedVariables false
set_option linter.unusedSectionVars false
namespace Go.Ev
open Go
variable {T : Tab} {st st' : St}
def Zds:List AV:=([0,1,56,2,57,49,28,3,61,58,42,50,38,29,17,4,62,47,59,36,45,43,51,22,53,39,33,30,24,18,12,5,63,55,48,27,60,41,37,16,46,35,44,21,52,32,23,11,54,26,40,15,34,20,31,10,25,14,19,9,13,8,7,6]:List Int).map fun n=> .int .u8 n
def Bru (st:St):Prop:=Zh st.h 6=some (.Wz 6 Zds)
theorem Bru.ext {s:St} (h:Bru st) (x:Ext st s) (hw:st.Wf):Bru s:=x.get hw h
def El (d:Nat):UInt8:=if d<10 then UInt8.ofNat (48+d)else UInt8.ofNat (87+d)
def Zi6:List UInt8:=[48,49,50,51,52,53,54,55,56,57,97,98,99,100,101,102,103,104,105,106,107,108,109,110,111,112,113,114,115,116,117,118,119,120,121,122]
theorem Zai:∀d,d<36→Zi6[d]? =some (El d):=by decide
def Bb (b:Nat):Nat→Nat→List UInt8
 | 0,u=>[El u]
 | k+1,u=>if u<b then [El u]else Bb b k (u / b)++[El (u % b)]
theorem Zdx {W:List AV} {i:Nat} {acc:List UInt8} {c:UInt8} (hW:W.length=65) (hi:i<65) (hd:W.drop (i+1)=u8s acc):(W.set i (.int .u8 c.toNat)).drop i=u8s (c::acc):=by
 rw[List.drop_eq_getElem_cons (by simp[hW];omega),List.getElem_set_self,List.drop_set_of_lt (by omega),hd]
 rfl
theorem Zad0 (b:Nat) (hb:2≤b) (hb2:b≤36) {pn:Nat}:∀(m u i:Nat) (acc:List UInt8) (W:List AV) (e:Env) (s:St),u<2 ^ m→i+acc.length=65→m+1≤i→m≤33→s.Wf→Zh s.h pn=some (.cells 246 false W)→W.length=65→W.drop i=u8s acc→Zl e 0= .Zc→Zl e 1= .int .u64 u→Zl e 3= .bool false→Zl e 4= .bool false→Zl e 10= .Zc→Zl e 12= .ptr pn 0→Zl e 13= .int .i64 i→Zl e 17= .int .u64 b→
  Res (run T (.loop B.Y4) e s) fun q e' s'=>q= .exit 2∧Frm [pn] s s'∧∃(u' i':Nat) (acc':List UInt8) (W':List AV),u'<b∧i'+acc'.length=65∧1≤i'∧Zh s'.h pn=some (.cells 246 false W')∧W'.length=65∧W'.drop i'=u8s acc'∧Zl e' 0= .Zc∧Zl e' 10= .Zc∧Zl e' 1= .int .u64 u'∧Zl e' 3= .bool false∧Zl e' 4= .bool false∧Zl e' 12= .ptr pn 0∧Zl e' 13= .int .i64 i'∧El u'::acc'=Bb b m u++acc:=by
 intro m
 induction m with
 | zero=>
   intro u i acc W e s hu hia hmi hm33 hwf hg hW hd g0 g1 g3 g4 g10 g12 g13 g17
   have hu0:u=0:=by simpa using hu
   have h1:¬(b:Int)≤u:=by omega
   rw[Zs]
   simp (disch:=omega) [B.Y4,go_sem,g0,g1,g3,g4,g10,g12,g13,g17,h1]
   exact⟨Frm.refl hwf _,u,by omega,i,acc,by omega,by omega,W,hg,hW,hd,rfl,rfl,rfl⟩
 | succ m ih=>
   intro u i acc W e s hu hia hmi hm33 hwf hg hW hd g0 g1 g3 g4 g10 g12 g13 g17
   rw[Zs]
   by_cases h1:u<b
   ·have h1':¬(b:Int)≤u:=by omega
    simp (disch:=omega) [B.Y4,go_sem,g0,g1,g3,g4,g10,g12,g13,g17,h1']
    refine⟨Frm.refl hwf _,u,by omega,i,acc,by omega,by omega,W,hg,hW,hd,rfl,rfl,?_⟩
    rw[Bb,if_pos h1];rfl
   ·have h1':(b:Int)≤u:=by omega
    obtain⟨j,rfl⟩:∃j,i=j+1:=⟨i - 1,by omega⟩
    have hu32:u<2 ^ 33:=Nat.lt_of_lt_of_le hu (Nat.pow_le_pow_right (by omega) (by omega))
    obtain⟨qv,rv,hqv,hrv,hqr,hrb,hqu,hq⟩:∃qv rv,u / b=qv∧u % b=rv∧qv*b+rv=u∧rv<b∧qv≤u∧((u:Int).tdiv (b:Int))=(qv:Int):=
     ⟨u / b,u % b,rfl,rfl,Nat.div_add_mod' u b,Nat.mod_lt _ (by omega),Nat.div_le_self _ _,by rw[Int.tdiv_eq_ediv_of_nonneg (by omega)];simp⟩
    have w1:IntKind.u64.wrap (qv:Int)=(qv:Int):=Fs (by omega) (by omega)
    have hqb:(qv:Int)*(b:Int)=((qv*b:Nat):Int):=by simp
    have w2:IntKind.u64.wrap ((qv:Int)*(b:Int))=(qv:Int)*(b:Int):=by rw[hqb];exact Fs (by omega) (by omega)
    have w3:IntKind.u64.wrap ((u:Int) - (qv:Int)*(b:Int))=(rv:Int):=by rw[hqb,Fs (by omega) (by omega)];omega
    have w4:IntKind.i64.wrap (((j+1:Nat):Int) - 1)=(j:Int):=by rw[Zo (by omega) (by omega)];omega
    have hdig:=Zai rv (by omega)
    simp only[Zi6]at hdig
    have b0:¬b=0:=by omega
    have j65:(j:Int)<65:=by omega
    have j64:j≤64:=by omega
    simp (disch:=omega) [B.Y4,go_sem,g0,g1,g3,g4,g10,g12,g13,g17,h1',hq,w1,w2,w3,w4,hdig,b0,hg,hW,j65,j64]
    have hf:Frm [pn] s ⟨Z7 s.h pn (.cells 246 false (W.set j (.int .u8 (El rv).toNat))),s.nx⟩:=Frm.set hwf hg
    have hq2:qv<2 ^ m:=by
     have:qv*2≤qv*b:=Nat.mul_le_mul_left _ hb
     rw[Nat.pow_succ]at hu
     omega
    refine(ih qv j (El rv::acc) (W.set j (.int .u8 (El rv).toNat)) _ _ hq2 (by simp only[List.length_cons];omega) (by omega) (by omega) hf.wf (by simp[Qm,hg]) (by simp[hW]) (Zdx hW (by omega) hd) (by simp[go_sem]) (by simp[go_sem]) (by simp[go_sem]) (by simp[go_sem]) (by simp[go_sem,g10]) (by simp[go_sem]) (by simp[go_sem]) (by simp[go_sem])).mono ?_
    rintro q e' s' ⟨rfl,hf2,u',i',acc',W',f1,f2,f3,f4,f5,f6,f7,f77,f8,f9,f10,f11,f12,f13⟩
    refine⟨rfl,hf.trans hf2 (fun n h=> .inl h),u',f1,i',acc',f2,f3,W',f4,f5,f6,f7,f77,f8,f9,f10,f11,f12,?_⟩
    rw[f13,Bb,if_neg h1,hqv,hrv]
    simp
theorem Zyb {a b:Nat} (ha:a<18446744073709551616) (hb:b<18446744073709551616):Zbe .u64 (a:Int) (b:Int)=((a &&& b:Nat):Int):=by
 unfold Zbe
 have h1:(BitVec.ofInt IntKind.u64.bits (a:Int) &&& BitVec.ofInt IntKind.u64.bits (b:Int)).toNat=a &&& b:=by
  rw[ofInt_ofNat,ofInt_ofNat]
  show (BitVec.ofNat 64 a &&& BitVec.ofNat 64 b).toNat=_
  rw[BitVec.toNat_and,BitVec.toNat_ofNat,BitVec.toNat_ofNat,Nat.mod_eq_of_lt (show a<2 ^ 64 by omega),Nat.mod_eq_of_lt (show b<2 ^ 64 by omega)]
 have:a &&& b≤a:=Nat.and_le_left
 rw[h1,Fs (by omega) (by omega)]
theorem Zadz (b sh:Nat) (hs:b=2 ^ sh) (hs1:1≤sh) (hs5:sh≤5) {pn:Nat}:∀(m u i:Nat) (acc:List UInt8) (W:List AV) (e:Env) (s:St),u<2 ^ m→i+acc.length=65→m+1≤i→m≤33→s.Wf→Zh s.h pn=some (.cells 246 false W)→W.length=65→W.drop i=u8s acc→Zl e 0= .Zc→Zl e 1= .int .u64 u→Zl e 3= .bool false→Zl e 4= .bool false→Zl e 10= .Zc→Zl e 11= .str []→Zl e 12= .ptr pn 0→Zl e 13= .int .i64 i→Zl e 14= .int .u64 sh→Zl e 15= .int .u64 b→Zl e 16= .int .u64 ((b - 1:Nat):Int)→
  Res (run T (.loop B.Y3) e s) fun q e' s'=>q= .exit 0∧Frm [pn] s s'∧∃(u' i':Nat) (acc':List UInt8) (W':List AV),u'<b∧i'+acc'.length=65∧1≤i'∧Zh s'.h pn=some (.cells 246 false W')∧W'.length=65∧W'.drop i'=u8s acc'∧Zl e' 0= .Zc∧Zl e' 10= .Zc∧Zl e' 1= .int .u64 u'∧Zl e' 3= .bool false∧Zl e' 4= .bool false∧Zl e' 12= .ptr pn 0∧Zl e' 13= .int .i64 i'∧El u'::acc'=Bb b m u++acc:=by
 have hb2:2≤b∧b≤32:=by
  subst hs
  have h1:2 ^ 1≤2 ^ sh:=Nat.pow_le_pow_right (by omega) hs1
  have h2:2 ^ sh≤2 ^ 5:=Nat.pow_le_pow_right (by omega) hs5
  omega
 intro m
 induction m with
 | zero=>
   intro u i acc W e s hu hia hmi hm33 hwf hg hW hd g0 g1 g3 g4 g10 g11 g12 g13 g14 g15 g16
   have hu0:u=0:=by simpa using hu
   have h1:¬(b:Int)≤u:=by omega
   rw[Zs]
   simp (disch:=omega) [B.Y3,go_sem,g0,g1,g3,g4,g10,g12,g13,g14,g15,g16,h1]
   exact⟨Frm.refl hwf _,u,by omega,i,acc,by omega,by omega,W,hg,hW,hd,rfl,rfl,rfl⟩
 | succ m ih=>
   intro u i acc W e s hu hia hmi hm33 hwf hg hW hd g0 g1 g3 g4 g10 g11 g12 g13 g14 g15 g16
   rw[Zs]
   by_cases h1:u<b
   ·have h1':¬(b:Int)≤u:=by omega
    simp (disch:=omega) [B.Y3,go_sem,g0,g1,g3,g4,g10,g12,g13,g14,g15,g16,h1']
    refine⟨Frm.refl hwf _,u,by omega,i,acc,by omega,by omega,W,hg,hW,hd,rfl,rfl,?_⟩
    rw[Bb,if_pos h1];rfl
   ·have h1':(b:Int)≤u:=by omega
    obtain⟨j,rfl⟩:∃j,i=j+1:=⟨i - 1,by omega⟩
    have hu32:u<2 ^ 33:=Nat.lt_of_lt_of_le hu (Nat.pow_le_pow_right (by omega) (by omega))
    obtain⟨qv,rv,hqv,hrv,hqr,hrb,hqu⟩:∃qv rv,u / b=qv∧u % b=rv∧qv*b+rv=u∧rv<b∧qv≤u:=
     ⟨u / b,u % b,rfl,rfl,Nat.div_add_mod' u b,Nat.mod_lt _ (by omega),Nat.div_le_self _ _⟩
    have w1:Zbe .u64 (u:Int) ((b - 1:Nat):Int)=(rv:Int):=by
     rw[Zyb (by omega) (by omega),hs,Nat.and_two_pow_sub_one_eq_mod,←hs,hrv]
    have w2:Zed .u64 (u:Int) (sh:Int)=(qv:Int):=by rw[Zye (by omega),←hs,hqv]
    have w4:IntKind.i64.wrap (((j+1:Nat):Int) - 1)=(j:Int):=by rw[Zo (by omega) (by omega)];omega
    have hdig:=Zai rv (by omega)
    simp only[Zi6]at hdig
    have b0:¬b=0:=by omega
    have j65:(j:Int)<65:=by omega
    have j64:j≤64:=by omega
    have sh0:¬(sh:Int)<0:=by omega
    simp (disch:=omega) [B.Y3,go_sem,g0,g1,g3,g4,g10,g12,g13,g14,g15,g16,h1',w1,w2,w4,hdig,b0,hg,hW,j65,j64,sh0]
    have hf:Frm [pn] s ⟨Z7 s.h pn (.cells 246 false (W.set j (.int .u8 (El rv).toNat))),s.nx⟩:=Frm.set hwf hg
    have hq2:qv<2 ^ m:=by
     have:qv*2≤qv*b:=Nat.mul_le_mul_left _ hb2.1
     rw[Nat.pow_succ]at hu
     omega
    refine(ih qv j (El rv::acc) (W.set j (.int .u8 (El rv).toNat)) _ _ hq2 (by simp only[List.length_cons];omega) (by omega) (by omega) hf.wf (by simp[Qm,hg]) (by simp[hW]) (Zdx hW (by omega) hd) (by simp[go_sem]) (by simp[go_sem]) (by simp[go_sem]) (by simp[go_sem]) (by simp[go_sem,g10]) (by simp[go_sem,g11]) (by simp[go_sem]) (by simp[go_sem]) (by simp[go_sem]) (by simp[go_sem]) (by simp[go_sem])).mono ?_
    rintro q e' s' ⟨rfl,hf2,u',i',acc',W',f1,f2,f3,f4,f5,f6,f7,f77,f8,f9,f10,f11,f12,f13⟩
    refine⟨rfl,hf.trans hf2 (fun n h=> .inl h),u',f1,i',acc',f2,f3,W',f4,f5,f6,f7,f77,f8,f9,f10,f11,f12,?_⟩
    rw[f13,Bb,if_neg h1,hqv,hrv]
    simp
theorem Zsm (H:B.U4 T) (hwf:st.Wf) (hbr:Bru st) (sh:Nat) (hs1:1≤sh) (hs5:sh≤5):Z9 T st (.fn 450 [] []) [.int .u64 ((2 ^ sh:Nat):Int)] (.int .i64 sh):=by
 refine Zm H.e H.f rfl ?_
 simp[B.J9,go_sem]
 have key:Z9 T st (.fn 452 [] []) [.int .u64 ((2 ^ sh:Nat):Int)] (.int .i64 sh):=by
  refine Zm H.Qk.e H.Qk.f rfl ?_
  have hb:Zh st.h 6=some (.Wz 6 Zds):=hbr
  have x:=Ext.refl hwf
  have:sh=1∨sh=2∨sh=3∨sh=4∨sh=5:=by omega
  rcases this with rfl | rfl | rfl | rfl | rfl
  ·have e:Zed .u64 (IntKind.u64.wrap (Zbe .u64 2 (IntKind.u64.wrap (-2))*285870213051353865)) 58=1:=by decide
   simp[B.Qk,go_sem,hb,aun,e,Zds,x]
  ·have e:Zed .u64 (IntKind.u64.wrap (Zbe .u64 4 (IntKind.u64.wrap (-4))*285870213051353865)) 58=3:=by decide
   simp[B.Qk,go_sem,hb,aun,e,Zds,x]
  ·have e:Zed .u64 (IntKind.u64.wrap (Zbe .u64 8 (IntKind.u64.wrap (-8))*285870213051353865)) 58=7:=by decide
   simp[B.Qk,go_sem,hb,aun,e,Zds,x]
  ·have e:Zed .u64 (IntKind.u64.wrap (Zbe .u64 16 (IntKind.u64.wrap (-16))*285870213051353865)) 58=15:=by decide
   simp[B.Qk,go_sem,hb,aun,e,Zds,x]
  ·have e:Zed .u64 (IntKind.u64.wrap (Zbe .u64 32 (IntKind.u64.wrap (-32))*285870213051353865)) 58=31:=by decide
   simp[B.Qk,go_sem,hb,aun,e,Zds,x]
 refine(by simpa using key:Z9 T st (.fn 452 [] []) [.int .u64 (2 ^ sh)] (.int .i64 sh)).use fun s1 x1=> ?_
 simp[go_sem,x1]
def p2 (b:Nat):Bool:=decide (b=2∨b=4∨b=8∨b=16∨b=32)
theorem Zaha:∀n:Fin 37,2≤n.1→decide (Zbe .i64 (n.1:Int) ((n.1:Int) - 1)=0)=p2 n.1:=by decide+kernel
theorem Zq1 (H:B.Xq T) (hwf:st.Wf) (b:Nat) (h0:2≤b) (h1:b≤36):Z9 T st (.fn 449 [] []) [.int .i64 b] (.bool (p2 b)):=by
 refine Zm H.e H.f rfl ?_
 have e:=Zaha ⟨b,by omega⟩ h0
 simp only at e
 have w:IntKind.i64.wrap ((b:Int) - 1)=(b:Int) - 1:=Zo (by omega) (by omega)
 simp[B.Ya,go_sem,w]
 exact⟨e,Ext.refl hwf⟩
theorem Zfi (H:B.Mm T) (hwf:st.Wf) (hbr:Bru st) (b:Nat) (h0:2≤b) (h1:b≤36) (h10:b≠10) (u:Nat) (hu:u<2 ^ 32):Z9 T st (.fn 445 [] []) [.Zc,.int .u64 u,.int .i64 b,.bool false,.bool false] (.tuple [.Zc,.str (Bb b 32 u)]):=by
 refine Zm H.e H.f rfl ?_
 have a1:¬(b:Int)<2:=by omega
 have a2:¬(b:Int)=10:=by omega
 have a3:¬(36:Int)<b:=by omega
 have a4:¬b<2:=by omega
 have a5:¬36<b:=by omega
 obtain⟨W0,hW0⟩:∃W,List.replicate 65 (AV.int .u8 0)=W:=⟨_,rfl⟩
 have l0:W0.length=65:=by rw[←hW0];simp
 have dd:W0.drop 65=u8s []:=by rw[←hW0];rfl
 have x0:=(Ext.refl hwf).Zf (o:= .cells 246 false W0) (Nat.lt_succ_self st.nx)
 have wb:IntKind.u64.wrap (b:Int)=(b:Int):=Fs (by omega) (by omega)
 have wb1:IntKind.u64.wrap ((b:Int) - 1)=((b - 1:Nat):Int):=by rw[Fs (by omega) (by omega)];omega
 simp (disch:=omega) [B.Vd,go_sem,a1,a2,a3,a4,a5,h10,hW0]
 refine(Zq1 H.Ya x0.wf b h0 h1).use fun s1 x1=> ?_
 have k1:=x1.Zd
 have y1:=x0.trans x1
 have n1:=x1.nx
 simp only at k1 n1
 have g1:Zh s1.h st.nx=some (.cells 246 false W0):=by rw[k1 _ (by omega)];simp[Zg]
 cases hp:p2 b with
 | true=>
   have hsh:∃sh,b=2 ^ sh∧1≤sh∧sh≤5:=by
    simp only[p2,decide_eq_true_eq]at hp
    rcases hp with h | h | h | h | h
    ·exact⟨1,h,by omega,by omega⟩
    ·exact⟨2,h,by omega,by omega⟩
    ·exact⟨3,h,by omega,by omega⟩
    ·exact⟨4,h,by omega,by omega⟩
    ·exact⟨5,h,by omega,by omega⟩
   obtain⟨sh,hsh,s1',s5⟩:=hsh
   simp (disch:=omega) [go_sem,wb]
   have hz:=Zsm H.J9 y1.wf (hbr.ext y1 hwf) sh s1' s5
   rw[←hsh]at hz
   refine hz.use fun s2 x2=> ?_
   have y2:=y1.trans x2
   have k2:=x2.Zd
   have n2:=x2.nx
   have g2:Zh s2.h st.nx=some (.cells 246 false W0):=by rw[k2 _ (by omega),g1]
   have wsh:IntKind.u64.wrap (sh:Int)=(sh:Int):=Fs (by omega) (by omega)
   simp (disch:=omega) [go_sem,wb,wb1,wsh]
   refine(Zadz b sh hsh s1' s5 (pn:=st.nx) 32 u 65 [] W0 _ s2 hu (by simp) (by omega) (by omega) y2.wf g2 l0 dd (by simp[go_sem]) (by simp[go_sem]) (by simp[go_sem]) (by simp[go_sem]) (by simp[go_sem]) (by simp[go_sem]) (by simp[go_sem]) (by simp[go_sem]) (by simp[go_sem]) (by simp[go_sem]) (by simp[go_sem])).mono ?_
   rintro q e' s3 ⟨rfl,hf,u',i',acc',W',f1,f2,f3,f4,f5,f6,f7,f77,f8,f9,f10,f11,f12,f13⟩
   obtain⟨j,rfl⟩:∃j,i'=j+1:=⟨i' - 1,by omega⟩
   have hdig:=Zai u' (by omega)
   simp only[Zi6]at hdig
   have w4:IntKind.i64.wrap (((j+1:Nat):Int) - 1)=(j:Int):=by rw[Zo (by omega) (by omega)];omega
   have j65:(j:Int)<65:=by omega
   have j64:j≤64:=by omega
   obtain⟨z,hz⟩:∃z,65 - j=z+1:=⟨64 - j,by omega⟩
   have hdr:=Zdx f5 (by omega) f6 (c:=El u')
   have hln:(u8s (El u'::acc')).length=z+1:=by rw[Zas];simp;omega
   have htk:(u8s (El u'::acc')).take (z+1)=u8s (El u'::acc'):=Xh hln
   have hres:El u'::acc'=Bb b 32 u:=by rw[f13];simp
   rw[hres]at htk hln hdr
   have y9:Ext st ⟨Z7 s3.h st.nx (.cells 246 false (W'.set j (.int .u8 (El u').toNat))),s3.nx⟩:=Ext.Qw (st:=st) (h:=s3.h) (m:=s3.nx) (n:=st.nx) (y2.Ma hf (by simp)) (Nat.le_refl _)
   simp (disch:=omega) [go_sem,f7,f77,f8,f9,f10,f11,f12,hdig,w4,j65,j64,f4,f5,X1,Kw,bnd,Yc,X6,X0,hz,show (j:Int)≤65 by omega,show j≤65 by omega,show j+(z+1)≤65 by omega,hdr,htk,E4,hres]
   exact y9
 | false=>
   simp (disch:=omega) [go_sem,wb]
   refine(Zad0 b h0 h1 (pn:=st.nx) 32 u 65 [] W0 _ s1 hu (by simp) (by omega) (by omega) y1.wf g1 l0 dd (by simp[go_sem]) (by simp[go_sem]) (by simp[go_sem]) (by simp[go_sem]) (by simp[go_sem]) (by simp[go_sem]) (by simp[go_sem]) (by simp[go_sem])).mono ?_
   rintro q e' s3 ⟨rfl,hf,u',i',acc',W',f1,f2,f3,f4,f5,f6,f7,f77,f8,f9,f10,f11,f12,f13⟩
   obtain⟨j,rfl⟩:∃j,i'=j+1:=⟨i' - 1,by omega⟩
   have hdig:=Zai u' (by omega)
   simp only[Zi6]at hdig
   have w4:IntKind.i64.wrap (((j+1:Nat):Int) - 1)=(j:Int):=by rw[Zo (by omega) (by omega)];omega
   have j65:(j:Int)<65:=by omega
   have j64:j≤64:=by omega
   obtain⟨z,hz⟩:∃z,65 - j=z+1:=⟨64 - j,by omega⟩
   have hdr:=Zdx f5 (by omega) f6 (c:=El u')
   have hln:(u8s (El u'::acc')).length=z+1:=by rw[Zas];simp;omega
   have htk:(u8s (El u'::acc')).take (z+1)=u8s (El u'::acc'):=Xh hln
   have hres:El u'::acc'=Bb b 32 u:=by rw[f13];simp
   rw[hres]at htk hln hdr
   have y9:Ext st ⟨Z7 s3.h st.nx (.cells 246 false (W'.set j (.int .u8 (El u').toNat))),s3.nx⟩:=Ext.Qw (st:=st) (h:=s3.h) (m:=s3.nx) (n:=st.nx) (y1.Ma hf (by simp)) (Nat.le_refl _)
   simp (disch:=omega) [go_sem,f7,f77,f8,f9,f10,f11,f12,hdig,w4,j65,j64,f4,f5,X1,Kw,bnd,Yc,X6,X0,hz,show (j:Int)≤65 by omega,show j≤65 by omega,show j+(z+1)≤65 by omega,hdr,htk,E4,hres]
   exact y9
theorem Zfk (H:B.Ml T) (hwf:st.Wf) (hbr:Bru st) (b:Nat) (h0:2≤b) (h1:b≤36) (h10:b≠10) (u:Nat) (hu:u<2 ^ 32):Z9 T st (.fn 395 [] []) [.int .u64 u,.int .i64 b] (.str (Bb b 32 u)):=by
 refine Zm H.e H.f rfl ?_
 simp[B.Vc,go_sem]
 have key:Z9 T st (.fn 431 [] []) [.int .u64 u,.int .i64 b] (.str (Bb b 32 u)):=by
  refine Zm H.J2.e H.J2.f rfl ?_
  have a2:¬(b:Int)=10:=by omega
  simp (disch:=omega) [B.J2,go_sem,a2]
  refine(Zfi H.J2.Vd hwf hbr b h0 h1 h10 u hu).use fun s1 x1=> ?_
  simp[go_sem,x1]
 refine key.use fun s1 x1=> ?_
 simp[go_sem,x1]
end Go.Ev

/- The reference's Print and Same; a token takes octets; all tokens. -/
namespace Go.Ev
open Go
variable {T : Tab} {st : St}
theorem Znq (n:Nat) (h:n<10000000000):(Lib.decDigits n).length≤10:=by
 have aux:∀(k n:Nat),n<10 ^ (k+1)→(Lib.decDigits n).length≤k+1:=by
  intro k
  induction k with
  | zero=>intro n hn;rw[X2 (by simpa using hn)];simp
  | succ k ih=>
    intro n hn
    by_cases h10:n<10
    ·rw[X2 h10];simp
    ·rw[Fx (by omega),List.length_append,List.length_singleton]
     have:=ih (n / 10) (by rw[Nat.pow_succ]at hn;omega)
     omega
 exact aux 9 n (by simpa using h)
end Go.Ev

/- The judge told: cvs and cvrs. -/
namespace Go.Ev
open Go
variable {T : Tab} {st st' : St}
theorem Zm7 {hp:List Ce} (hs:HpS hp) (o:Ob):(Si hp o).length<1000000000:=by
 unfold Si
 split
 case isFalse=>simp
 rename_i hf
 obtain⟨b3,b4,_⟩:=Zx1 hf
 split
 ·simp only[Zp8];split <;> simp
 split
 ·rename_i h3
  have:=b3 h3
  unfold Lib.itoa
  split
  ·have:=Znq o.n.natAbs (by omega)
   simp only[List.length_cons];omega
  ·have:=Znq o.n.toNat (by omega)
   omega
 split
 ·rename_i h4
  have:=b4 h4
  have h3:=Znq (o.n.natAbs / 65536) (by omega)
  have h4:=Zfl 17 (o.n.natAbs % 65536)
  unfold Hv
  simp only[List.length_append,List.length_cons]
  split <;> simp only[List.length_cons,List.length_nil] <;> omega
 have ht:o.k=5∨o.k=10→o.t.length<1000000000:=by
  intro hk
  simp only[Yz,Bool.and_eq_true,Je,Zo6,decide_eq_true_eq]at hf
  have:=hf.1.2.2.1.2
  rcases hk with e | e <;> rw[e]at this <;> simp[Cc,Zkh]at this <;> omega
 split
 ·rename_i h;exact ht (.inl h)
 split
 ·unfold Jn
  split
  ·cases hc:Zdl hp o.r with
   | none=>simp
   | some c=>
     have:=hs.2 c (List.mem_of_getElem? hc)
     simp only[Zzc,List.length_take,List.length_drop]
     omega
  ·simp
 split
 ·rename_i h;exact ht (.inr h)
 ·decide
theorem Zns (d:Nat) (h:d<36):(El d).toNat<128:=by
 unfold El
 split <;> simp <;> omega
theorem Zja (b:Nat) (hb:0<b∧b≤36):∀k u,(Bb b k u).length≤k+1∧(u<b ^ (k+1)→(Bb b k u).all (fun c=>decide (c.toNat<128))=true)
 | 0,u=>⟨by simp[Bb],fun h=>by
   have:=Zns u (by simp at h;omega)
   simpa [Bb] using this⟩
 | k+1,u=>by
   obtain⟨h1,h2⟩:=Zja b hb k (u / b)
   unfold Bb
   split
   ·rename_i h
    refine⟨by simp,fun _=> ?_⟩
    have:=Zns u (by omega)
    simpa using this
   ·refine⟨by simp;omega,fun h=> ?_⟩
    have hm:u % b<b:=Nat.mod_lt _ hb.1
    have h3:=Zns (u % b) (by omega)
    rw[List.all_append,h2 (by rw[Nat.div_lt_iff_lt_mul hb.1,←Nat.pow_succ];exact h)]
    simpa using h3
theorem Zps (s:List UInt8):(Lib.toUpperA s).length=s.length:=by simp[Lib.toUpperA]
def Zi4 (ops:List Ob) (hp:List Ce):R3:=if Yq ops [0,2]≠0 then(Yq ops [0,2],[],[])else A2 ops hp 2 (Si hp (Jf ops 2 0)) (Jf ops 2 1)
def Zum (o:Ob) (b:Int):List UInt8:=Lib.toUpperA (Bb b.toNat 32 (IntKind.u32.wrap (Ns o).1.n).toNat)
def C9 (ops:List Ob) (hp:List Ce):R3:=
 if Yq ops [1,4,2]≠0 then(Yq ops [1,4,2],[],[])
 else if(Jf ops 3 1).n<2∨36<(Jf ops 3 1).n then(23,[],[])
 else if(Jf ops 3 1).n=10 then A2 ops hp 3 (Si hp (Jf ops 3 0)) (Jf ops 3 2)
 else A2 ops hp 3 (Zum (Jf ops 3 0) (Jf ops 3 1).n) (Jf ops 3 2)
theorem Zaaa (H:B.Gg T) (hwf:st.Wf) {v0 v1 v2:AV} {r:List AV} (hR:Rest v1 r) {ops:List Ob} {hp:List Ce} (r0:RdO st.h v0 ops) (r2:HpR st.h v2 hp) (hb:ops.length<1000000) (hs:HpS hp) (hpw:Pow st) (hbr:Bru st):
  Qt (call T (.fn 352 [] []) [.agg (v0::v1::v2::r)] st) fun w s=>Ext st s∧Kn s w v0 v1 v2 r (Zi4 ops hp).1 (Zi4 ops hp).2.1 (Zi4 ops hp).2.2:=by
 refine Zw H.e H.f rfl ?_
 have hlen:=hR.len
 have ht:=hR.take
 have s0:=RdS.sc r0
 have s1:=hR.sc
 have s2:=r2.sc
 have sr:=hR.all
 have z1:∀v,Qd B.Qi 0 (v::v1::v2::r)=v::v1::v2::r:=fun v=>Z8 (by rw[hR.Yn,Zk])
 have d0:¬st.nx+1+1=st.nx:=by omega
 have x0:=(((Ext.refl hwf).Zf (o:= .cells 493 true (v0::v1::v2::r)) (Nat.lt_succ_self st.nx)).Zf (o:= .cells 457 true B.Qi) (Nat.lt_succ_self (st.nx+1))).Zf (o:= .cells 3 false (Nw [0,2])) (Nat.lt_succ_self (st.nx+1+1))
 simp (disch:=omega) [B.U9,go_sem,hlen,ht,d0]
 refine(Wo H.Zy x0.wf hR (r0.ext x0 hwf) s2 hb (Ry [0,2] _ _ _ rfl) (by simp)).mono ?_
 rintro w q1 ⟨x1,⟨he,rfl⟩ | ⟨he,hle,v',rfl,r1⟩⟩
 ·have y1:=x0.trans x1
  have n1:=x1.nx
  have k1:=x1.Zd
  simp only at n1 k1
  have e1:Zi4 ops hp=(Yq ops [0,2],[],[]):=by unfold Zi4;rw[if_pos he]
  rw[e1]
  simp (disch:=omega) [go_sem,k1,he,d0,hlen,ht,z1,Zk,s0,s1,s2,sr]
  exact⟨(Ext.Qw (st:=st) (h:=q1.h) (m:=q1.nx) (n:=st.nx+1) y1 (by omega)).Zb,.inl ⟨he,rfl⟩⟩
 ·have y1:=x0.trans x1
  have n1:=x1.nx
  have k1:=x1.Zd
  simp only at n1 k1
  obtain⟨n,off,ob,hat⟩:=r1.acc y1.wf
  obtain⟨a01,a02,a03,a04⟩:=hat 0 _ (by omega) (Uu hle (i:=0) (by simp))
  obtain⟨a11,a12,a13,a14⟩:=hat 1 _ (by omega) (Uu hle (i:=1) (by simp))
  simp only[List.length_cons,List.length_nil,Int.reduceToNat,Nat.zero_mul,Nat.one_mul,Nat.zero_add,Nat.add_zero,Nat.reduceAdd,Nat.reduceMul]at a03 a04 a13 a14 hle
  have e1:Zi4 ops hp=A2 ops hp 2 (Si hp (Jf ops 2 0)) (Jf ops 2 1):=by unfold Zi4;rw[if_neg (by simp[he])]
  rw[e1]
  generalize Jf ops 2 0=oa at*
  generalize Jf ops 2 1=ob2 at*
  have y2:=y1.upN (m:=q1.nx+18) (by omega)
  simp (disch:=omega) [go_sem,k1,he,d0,hlen,ht,↓Zp,a02,a03,a04,a12,a13,a14]
  refine(Ic H.Xw y2.wf (hpw.ext y2 hwf) (r2.ext y2 hwf) oa).use fun q2 x2=> ?_
  have k2:=x2.Zd
  have y3:=y2.trans x2
  have n2:=x2.nx
  simp only at k2 n2
  have htx:=Zm7 hs oa
  generalize Si hp oa=tx at*
  simp (disch:=omega) [go_sem,reI,wanted,k2,k1,a02,a04,a12,a14,d0,hlen,ht]
  refine(Zph H.Kx y3.wf hR hs (r0.ext y3 hwf) (r2.ext y3 hwf) hb 2 (by decide) _ htx _).mono ?_
  rintro w q9 ⟨x9,ha⟩
  obtain⟨X,e',rfl,hX,hXs,hXt,hXz⟩:=ha.shape hR s0 s2
  have k9:=x9.Zd
  have y9:=y3.trans x9
  have n9:=x9.nx
  try simp only at n9 k9
  have g:Zh q9.h (st.nx+1)=some (.cells 457 true B.Qi):=by
   rw[k9 _ (by omega)]
   simp (disch:=omega) [k2,k1,Zg,Qm]
  simp (disch:=omega) [go_sem,reI,wanted,k9,k2,k1,d0,hX,hXs,hXt,hXz,Zk]
  have z:=Ext.Qw (st:=st) (h:=q9.h) (m:=q9.nx) (n:=st.nx+1) (o:= .cells 457 true X) y9 (by omega)
  exact⟨z.Zb,Kn.Zb (st:=⟨_,q9.nx⟩) (ha.Z7 g rfl) z.wf⟩
theorem Zxt (H:B.Rk T) (hwf:st.Wf) {v0 v1 v2:AV} {r:List AV} (hR:Rest v1 r) {ops:List Ob} {hp:List Ce} (r0:RdO st.h v0 ops) (r2:HpR st.h v2 hp) (hb:ops.length<1000000) (hs:HpS hp) (hpw:Pow st) (hbr:Bru st):
  Qt (call T (.fn 353 [] []) [.agg (v0::v1::v2::r)] st) fun w s=>Ext st s∧Kn s w v0 v1 v2 r (C9 ops hp).1 (C9 ops hp).2.1 (C9 ops hp).2.2:=by
 refine Zw H.e H.f rfl ?_
 have hlen:=hR.len
 have ht:=hR.take
 have s0:=RdS.sc r0
 have s1:=hR.sc
 have s2:=r2.sc
 have sr:=hR.all
 have z1:∀v,Qd B.Qi 0 (v::v1::v2::r)=v::v1::v2::r:=fun v=>Z8 (by rw[hR.Yn,Zk])
 have d0:¬st.nx+1+1=st.nx:=by omega
 have x0:=(((Ext.refl hwf).Zf (o:= .cells 493 true (v0::v1::v2::r)) (Nat.lt_succ_self st.nx)).Zf (o:= .cells 457 true B.Qi) (Nat.lt_succ_self (st.nx+1))).Zf (o:= .cells 3 false (Nw [1,4,2])) (Nat.lt_succ_self (st.nx+1+1))
 simp (disch:=omega) [B.Ul,go_sem,hlen,ht,d0]
 refine(Wo H.Zy x0.wf hR (r0.ext x0 hwf) s2 hb (Ry [1,4,2] _ _ _ rfl) (by simp)).mono ?_
 rintro w q1 ⟨x1,⟨he,rfl⟩ | ⟨he,hle,v',rfl,r1⟩⟩
 ·have y1:=x0.trans x1
  have n1:=x1.nx
  have k1:=x1.Zd
  simp only at n1 k1
  have e1:C9 ops hp=(Yq ops [1,4,2],[],[]):=by unfold C9;rw[if_pos he]
  rw[e1]
  simp (disch:=omega) [go_sem,k1,he,d0,hlen,ht,z1,Zk,s0,s1,s2,sr]
  exact⟨(Ext.Qw (st:=st) (h:=q1.h) (m:=q1.nx) (n:=st.nx+1) y1 (by omega)).Zb,.inl ⟨he,rfl⟩⟩
 ·have y1:=x0.trans x1
  have n1:=x1.nx
  have k1:=x1.Zd
  simp only at n1 k1
  obtain⟨n,off,ob,hat⟩:=r1.acc y1.wf
  obtain⟨a01,a02,a03,a04⟩:=hat 0 _ (by omega) (Uu hle (i:=0) (by simp))
  obtain⟨a11,a12,a13,a14⟩:=hat 1 _ (by omega) (Uu hle (i:=1) (by simp))
  obtain⟨a21,a22,a23,a24⟩:=hat 2 _ (by omega) (Uu hle (i:=2) (by simp))
  simp only[List.length_cons,List.length_nil,Int.reduceToNat,Nat.zero_mul,Nat.one_mul,Nat.zero_add,Nat.add_zero,Nat.reduceAdd,Nat.reduceMul]at a03 a04 a13 a14 a23 a24 hle
  by_cases hbase:(Jf ops 3 1).n<2∨36<(Jf ops 3 1).n
  ·have e1:C9 ops hp=(23,[],[]):=by unfold C9;rw[if_neg (by simp[he]),if_pos hbase]
   rw[e1]
   generalize Jf ops 3 0=oa at*
   generalize Jf ops 3 1=ob2 at*
   generalize Jf ops 3 2=oc at*
   have p3:=Jg a14 (i:=2) (by omega)
   simp[Ob.A]at p3
   by_cases hb2:ob2.n<2
   ·simp (disch:=omega) [go_sem,k1,he,d0,hlen,ht,↓Zp,a12,a13,p3,hb2,z1,Zk,s0,s1,s2,sr]
    exact⟨(Ext.Qw (st:=st) (h:=q1.h) (m:=q1.nx) (n:=st.nx+1) y1 (by omega)).Zb,.inl ⟨by decide,rfl⟩⟩
   ·have hb3:36<ob2.n:=by omega
    simp (disch:=omega) [go_sem,k1,he,d0,hlen,ht,↓Zp,a12,a13,p3,hb2,hb3,z1,Zk,s0,s1,s2,sr]
    exact⟨(Ext.Qw (st:=st) (h:=q1.h) (m:=q1.nx) (n:=st.nx+1) y1 (by omega)).Zb,.inl ⟨by decide,rfl⟩⟩
  ·have htx:=Zm7 hs (Jf ops 3 0)
   by_cases h10:(Jf ops 3 1).n=10
   ·have e1:C9 ops hp=A2 ops hp 3 (Si hp (Jf ops 3 0)) (Jf ops 3 2):=by unfold C9;rw[if_neg (by simp[he]),if_neg hbase,if_pos h10]
    rw[e1]
    generalize Jf ops 3 0=oa at*
    generalize Jf ops 3 1=ob2 at*
    generalize Jf ops 3 2=oc at*
    have p3:=Jg a14 (i:=2) (by omega)
    simp[Ob.A,h10]at p3
    have y2:=y1.upN (m:=q1.nx+8) (by omega)
    simp (disch:=omega) [go_sem,k1,he,d0,hlen,ht,↓Zp,a02,a03,a04,a12,a13,p3]
    refine(Ic H.Xw y2.wf (hpw.ext y2 hwf) (r2.ext y2 hwf) oa).use fun q2 x2=> ?_
    have k2:=x2.Zd
    have y3:=y2.trans x2
    have n2:=x2.nx
    simp only at k2 n2
    have y4:=y3.upN (m:=q2.nx+10) (by omega)
    generalize Si hp oa=tx at*
    simp (disch:=omega) [go_sem,reI,wanted,k2,k1,a02,a22,a23,a24,d0,hlen,ht,↓Zp]
    refine(Zph H.Kx y4.wf hR hs (r0.ext y4 hwf) (r2.ext y4 hwf) hb 3 (by decide) _ htx _).mono ?_
    rintro w q9 ⟨x9,ha⟩
    obtain⟨X,e',rfl,hX,hXs,hXt,hXz⟩:=ha.shape hR s0 s2
    have k9:=x9.Zd
    have y9:=y4.trans x9
    have n9:=x9.nx
    try simp only at n9 k9
    have g:Zh q9.h (st.nx+1)=some (.cells 457 true B.Qi):=by
     rw[k9 _ (by omega)]
     simp (disch:=omega) [k2,k1,Zg,Qm]
    simp (disch:=omega) [go_sem,reI,wanted,k9,k2,k1,d0,hX,hXs,hXt,hXz,Zk]
    have z:=Ext.Qw (st:=st) (h:=q9.h) (m:=q9.nx) (n:=st.nx+1) (o:= .cells 457 true X) y9 (by omega)
    exact⟨z.Zb,Kn.Zb (st:=⟨_,q9.nx⟩) (ha.Z7 g rfl) z.wf⟩
   ·have e1:C9 ops hp=A2 ops hp 3 (Zum (Jf ops 3 0) (Jf ops 3 1).n) (Jf ops 3 2):=by unfold C9;rw[if_neg (by simp[he]),if_neg hbase,if_neg h10]
    rw[e1]
    generalize Jf ops 3 0=oa at*
    generalize Jf ops 3 1=ob2 at*
    generalize Jf ops 3 2=oc at*
    have p3:=Jg a14 (i:=2) (by omega)
    simp[Ob.A]at p3
    have hb2:¬ob2.n<2:=by omega
    have hb3:¬36<ob2.n:=by omega
    have y2:=y1.upN (m:=q1.nx+8) (by omega)
    simp (disch:=omega) [go_sem,k1,he,d0,hlen,ht,↓Zp,a02,a03,a04,a12,a13,p3,hb2,hb3]
    refine(Ic H.Xw y2.wf (hpw.ext y2 hwf) (r2.ext y2 hwf) oa).use fun q2 x2=> ?_
    have k2:=x2.Zd
    have y3:=y2.trans x2
    have n2:=x2.nx
    simp only at k2 n2
    simp (disch:=omega) [go_sem,reI,wanted,k2,k1,a02,a04,d0,hlen,ht,↓Zp,a03,h10]
    refine(Zm8 H.Wm y3.wf oa).use fun q3 x3=> ?_
    have k3:=x3.Zd
    have y4:=y3.trans x3
    have n3:=x3.nx
    have f1:¬q3.nx=st.nx:=by omega
    have f2:¬q3.nx=st.nx+1:=by omega
    have f3:¬q3.nx=n:=by omega
    obtain⟨U,hU,hU0,hU1⟩:∃U:Nat,IntKind.u32.wrap (Ns oa).1.n=(U:Int)∧U<2 ^ 32∧(IntKind.u32.wrap (Ns oa).1.n).toNat=U:=by
     have h0:0≤IntKind.u32.wrap (Ns oa).1.n∧IntKind.u32.wrap (Ns oa).1.n<4294967296:=by
      simp[IntKind.wrap,IntKind.signed,IntKind.bits];omega
     exact⟨(IntKind.u32.wrap (Ns oa).1.n).toNat,by omega,by omega,rfl⟩
    have hbT:Zum oa ob2.n=Lib.toUpperA (Bb ob2.n.toNat 32 U):=by unfold Zum;rw[hU1]
    rw[hbT]
    obtain⟨bn,hbn⟩:∃bn:Nat,ob2.n=(bn:Int):=⟨ob2.n.toNat,by omega⟩
    rw[show ob2.n.toNat=bn by omega]
    have wU:IntKind.u64.wrap (U:Int)=(U:Int):=Fs (by omega) (by omega)
    have y5:=y4.Zf (o:= .cells 451 true (Ns oa).1.A) (Nat.lt_succ_self q3.nx)
    simp (disch:=omega) [go_sem,k3,k2,k1,d0,f1,f2,f3,B.zOb,hlen,ht,hU,wU,hbn]
    refine(Zfk H.Vc y5.wf (hbr.ext y5 hwf) bn (by omega) (by omega) (by omega) U hU0).use fun q4 x4=> ?_
    have k4:=x4.Zd
    have y6:=y5.trans x4
    have n4:=x4.nx
    simp only at k4 n4
    have y7:=y6.upN (m:=q4.nx+10) (by omega)
    obtain⟨hl1,hl2⟩:=Zja bn (by omega) 32 U
    have hl2:=hl2 (Nat.lt_of_lt_of_le hU0 (Nat.le_trans (Nat.pow_le_pow_right (by omega) (by omega:32≤33)) (Nat.pow_le_pow_left (by omega) 33)))
    have hup:call T (.fn 396 [] []) [.str (Bb bn 32 U)] q4=some (.str (Lib.toUpperA (Bb bn 32 U)),q4):=by
     rw[Rn H.Zh9.en]
     simp only[List.nil_append,List.append_nil,B.Vo]
     rw[if_pos ⟨by omega,hl2⟩]
    have hll:(Lib.toUpperA (Bb bn 32 U)).length<1000000000:=by rw[Zps];omega
    generalize Lib.toUpperA (Bb bn 32 U)=tx at*
    simp (disch:=omega) [go_sem,reI,wanted,hup,k4,k3,k2,k1,f1,f2,f3,a02,a22,a23,a24,d0,hlen,ht,↓Zp]
    refine(Zph H.Kx y7.wf hR hs (r0.ext y7 hwf) (r2.ext y7 hwf) hb 3 (by decide) _ hll _).mono ?_
    rintro w q9 ⟨x9,ha⟩
    obtain⟨X,e',rfl,hX,hXs,hXt,hXz⟩:=ha.shape hR s0 s2
    have k9:=x9.Zd
    have y9:=y7.trans x9
    have n9:=x9.nx
    try simp only at n9 k9
    have g:Zh q9.h (st.nx+1)=some (.cells 457 true B.Qi):=by
     rw[k9 _ (by omega)]
     simp (disch:=omega) [k4,k3,k2,k1,Zg,Qm,f1,f2,f3]
    simp (disch:=omega) [go_sem,reI,wanted,k9,k4,k3,k2,k1,d0,hX,hXs,hXt,hXz,Zk,f1,f2,f3]
    have z:=Ext.Qw (st:=st) (h:=q9.h) (m:=q9.nx) (n:=st.nx+1) (o:= .cells 457 true X) y9 (by omega)
    exact⟨z.Zb,Kn.Zb (st:=⟨_,q9.nx⟩) (ha.Z7 g rfl) z.wf⟩
end Go.Ev

/- Do told. -/
namespace Go.Ev
open Go
variable {T : Tab} {st st' : St}
theorem Ans.toH {w v0 v1 v2:AV} {r:List AV} {e:Int} {ops:List Ob} {hp:List Ce} (a:Ans st w v0 v1 v2 r e ops) (h:HpR st.h v2 hp):Kn st w v0 v1 v2 r e ops hp:=by
 rcases a with h1 | ⟨h1,v',h2,h3⟩
 ·exact .inl h1
 ·exact .inr ⟨h1,v',v2,h2,h3,h⟩
def r23 (r:R2) (hp:List Ce):R3:=(r.1,r.2,hp)
def Fp (ops:List Ob) (o:Ob):R2:=(if 100<ops.length+1 then 21 else 0,ops++[o])
def doR (ops:List Ob) (hp:List Ce) (op:List UInt8):R3:=
 if op=[108,116]then r23 (No ops hp fun c=>decide (c<0)) hp
 else if op=[108,101]then r23 (No ops hp fun c=>decide (c≤0)) hp
 else if op=[103,116]then r23 (No ops hp fun c=>decide (0<c)) hp
 else if op=[103,101]then r23 (No ops hp fun c=>decide (0≤c)) hp
 else if op=[97,110,100]then r23 (Eg ops (Zbe .i64)) hp
 else if op=[111,114]then r23 (Eg ops (ior .i64)) hp
 else if op=[120,111,114]then r23 (Eg ops (Ztp .i64)) hp
 else if op=[101,113]then r23 (Dr ops hp true) hp
 else if op=[110,101]then r23 (Dr ops hp false) hp
 else if op=[110,111,116]then r23 (Zo8 ops) hp
 else if op=[98,105,116,115,104,105,102,116]then r23 (P4 ops) hp
 else if op=[116,114,117,101]then r23 (Fp ops (Qp true)) hp
 else if op=[102,97,108,115,101]then r23 (Fp ops (Qp false)) hp
 else if op=[110,117,108,108]then r23 (Fp ops obZ) hp
 else if op=[116,121,112,101]then r23 (G0 ops 0 Zg4) hp
 else if op=[120,99,104,101,99,107]then r23 (G0 ops 0 xF) hp
 else if op=[99,118,120]then r23 (G0 ops 0 (T5 true)) hp
 else if op=[99,118,108,105,116]then r23 (G0 ops 0 (T5 false)) hp
 else if op=[99,118,110]then r23 (G0 ops 2 (Zki hp)) hp
 else if op=[99,118,105]then r23 (G0 ops 5 (Tx hp Ns)) hp
 else if op=[99,118,114]then r23 (G0 ops 5 (Tx hp G6)) hp
 else if op=[99,118,115]then Zi4 ops hp
 else if op=[99,118,114,115]then C9 ops hp
 else(24,[],[])
theorem Zs5 (H:B.Oo T) (hwf:st.Wf) (c:Int):Z9 T st (.fn 330 [] []) [.int .i64 c] (.bool ((fun c=>decide (c<0)) c)):=by
 refine Zm H.e H.f rfl ?_
 simp[B.Hl,go_sem]
 exact Ext.refl hwf
theorem Zagn (H:B.Qq T) (hwf:st.Wf) {v0 v1 v2:AV} {r:List AV} (hR:Rest v1 r) {ops:List Ob} {hp:List Ce} (r0:RdO st.h v0 ops) (r2:HpR st.h v2 hp) (hb:ops.length<1000000) (hs:HpS hp) (hpw:Pow st) (hbr:Bru st):
  Qt (call T (.fn 308 [] []) [.agg (v0::v1::v2::r),.str [108,116]] st) fun w s=>Ext st s∧Kn s w v0 v1 v2 r (No ops hp fun c=>decide (c<0)).1 (No ops hp fun c=>decide (c<0)).2 hp:=by
 refine Zw H.e H.f rfl ?_
 have hlen:=hR.len
 have ht:=hR.take
 have s0:=RdS.sc r0
 have s1:=hR.sc
 have s2:=r2.sc
 have sr:=hR.all
 have z1:∀v,Qd B.Qi 0 (v::v1::v2::r)=v::v1::v2::r:=fun v=>Z8 (by rw[hR.Yn,Zk])
 have d0:¬st.nx+1+1=st.nx:=by omega
 have d1:¬st.nx+1+1=st.nx+1:=by omega
 have d2:¬st.nx+1+1+1=st.nx:=by omega
 have d3:¬st.nx+1+1+1=st.nx+1:=by omega
 have d4:¬st.nx+1+1+1=st.nx+1+1:=by omega
 have d5:¬st.nx+1+1+1+1=st.nx:=by omega
 have d6:¬st.nx+1+1+1+1=st.nx+1:=by omega
 have d7:¬st.nx+1+1+1+1=st.nx+1+1:=by omega
 have d8:¬st.nx+1+1+1+1=st.nx+1+1+1:=by omega
 have xA:=((((Ext.refl hwf).Zf (o:= .cells 457 true (v0::v1::v2::r)) (Nat.lt_succ_self st.nx)).Zf (o:= .cells 457 true B.Qi) (Nat.lt_succ_self (st.nx+1))).Zf (o:= .cells 493 true (v0::v1::v2::r)) (Nat.lt_succ_self (st.nx+1+1))).Zf (o:=(.map [(.str [108,116],.fn 330 [] []),(.str [108,101],.fn 331 [] []),(.str [103,116],.fn 332 [] []),(.str [103,101],.fn 333 [] [])])) (Nat.lt_succ_self (st.nx+1+1+1))
 simp (disch:=omega) [B.Qv,go_sem,hlen,ht,d0,d1,d2,d3,d4,d5,d6,d7,d8,z1,Zk,s0,s1,s2,sr,Mb,Ug,Qo,Uv]
 refine(Zig H.Jp xA.wf hR (r0.ext xA hwf) (r2.ext xA hwf) hb (f:=fun c=>decide (c<0)) (fun s c hw=>Zs5 H.Hl hw c)).mono ?_
 rintro w q9 ⟨x9,ha⟩
 have k9:=x9.Zd
 have y9:=xA.trans x9
 have n9:=x9.nx
 try simp only at n9 k9
 have ha:=ha.toH (r2.ext y9 hwf)
 obtain⟨X,e',rfl,hX,hXs,hXt,hXz⟩:=ha.shape hR s0 s2
 have g:Zh q9.h (st.nx+1)=some (.cells 457 true B.Qi):=by
  rw[k9 _ (by omega)]
  simp (disch:=omega) [Zg,d0,d1,d2,d3,d4,d5,d6,d7,d8]
 simp (disch:=omega) [go_sem,reI,wanted,k9,hX,hXs,hXt,hXz,Zk,d0,d1,d2,d3,d4,d5,d6,d7,d8]
 have z:=Ext.Qw (st:=st) (h:=q9.h) (m:=q9.nx) (n:=st.nx+1) (o:= .cells 457 true X) y9 (by omega)
 exact⟨z.Zb,Kn.Zb (st:=⟨_,q9.nx⟩) (ha.Z7 g rfl) z.wf⟩
theorem Zs6 (H:B.Oq T) (hwf:st.Wf) (c:Int):Z9 T st (.fn 331 [] []) [.int .i64 c] (.bool ((fun c=>decide (c≤0)) c)):=by
 refine Zm H.e H.f rfl ?_
 simp[B.Hm,go_sem]
 exact Ext.refl hwf
theorem Zagm (H:B.Qq T) (hwf:st.Wf) {v0 v1 v2:AV} {r:List AV} (hR:Rest v1 r) {ops:List Ob} {hp:List Ce} (r0:RdO st.h v0 ops) (r2:HpR st.h v2 hp) (hb:ops.length<1000000) (hs:HpS hp) (hpw:Pow st) (hbr:Bru st):
  Qt (call T (.fn 308 [] []) [.agg (v0::v1::v2::r),.str [108,101]] st) fun w s=>Ext st s∧Kn s w v0 v1 v2 r (No ops hp fun c=>decide (c≤0)).1 (No ops hp fun c=>decide (c≤0)).2 hp:=by
 refine Zw H.e H.f rfl ?_
 have hlen:=hR.len
 have ht:=hR.take
 have s0:=RdS.sc r0
 have s1:=hR.sc
 have s2:=r2.sc
 have sr:=hR.all
 have z1:∀v,Qd B.Qi 0 (v::v1::v2::r)=v::v1::v2::r:=fun v=>Z8 (by rw[hR.Yn,Zk])
 have d0:¬st.nx+1+1=st.nx:=by omega
 have d1:¬st.nx+1+1=st.nx+1:=by omega
 have d2:¬st.nx+1+1+1=st.nx:=by omega
 have d3:¬st.nx+1+1+1=st.nx+1:=by omega
 have d4:¬st.nx+1+1+1=st.nx+1+1:=by omega
 have d5:¬st.nx+1+1+1+1=st.nx:=by omega
 have d6:¬st.nx+1+1+1+1=st.nx+1:=by omega
 have d7:¬st.nx+1+1+1+1=st.nx+1+1:=by omega
 have d8:¬st.nx+1+1+1+1=st.nx+1+1+1:=by omega
 have xA:=((((Ext.refl hwf).Zf (o:= .cells 457 true (v0::v1::v2::r)) (Nat.lt_succ_self st.nx)).Zf (o:= .cells 457 true B.Qi) (Nat.lt_succ_self (st.nx+1))).Zf (o:= .cells 493 true (v0::v1::v2::r)) (Nat.lt_succ_self (st.nx+1+1))).Zf (o:=(.map [(.str [108,116],.fn 330 [] []),(.str [108,101],.fn 331 [] []),(.str [103,116],.fn 332 [] []),(.str [103,101],.fn 333 [] [])])) (Nat.lt_succ_self (st.nx+1+1+1))
 simp (disch:=omega) [B.Qv,go_sem,hlen,ht,d0,d1,d2,d3,d4,d5,d6,d7,d8,z1,Zk,s0,s1,s2,sr,Mb,Ug,Qo,Uv]
 refine(Zig H.Jp xA.wf hR (r0.ext xA hwf) (r2.ext xA hwf) hb (f:=fun c=>decide (c≤0)) (fun s c hw=>Zs6 H.Hm hw c)).mono ?_
 rintro w q9 ⟨x9,ha⟩
 have k9:=x9.Zd
 have y9:=xA.trans x9
 have n9:=x9.nx
 try simp only at n9 k9
 have ha:=ha.toH (r2.ext y9 hwf)
 obtain⟨X,e',rfl,hX,hXs,hXt,hXz⟩:=ha.shape hR s0 s2
 have g:Zh q9.h (st.nx+1)=some (.cells 457 true B.Qi):=by
  rw[k9 _ (by omega)]
  simp (disch:=omega) [Zg,d0,d1,d2,d3,d4,d5,d6,d7,d8]
 simp (disch:=omega) [go_sem,reI,wanted,k9,hX,hXs,hXt,hXz,Zk,d0,d1,d2,d3,d4,d5,d6,d7,d8]
 have z:=Ext.Qw (st:=st) (h:=q9.h) (m:=q9.nx) (n:=st.nx+1) (o:= .cells 457 true X) y9 (by omega)
 exact⟨z.Zb,Kn.Zb (st:=⟨_,q9.nx⟩) (ha.Z7 g rfl) z.wf⟩
theorem Zs7 (H:B.Ot T) (hwf:st.Wf) (c:Int):Z9 T st (.fn 332 [] []) [.int .i64 c] (.bool ((fun c=>decide (0<c)) c)):=by
 refine Zm H.e H.f rfl ?_
 simp[B.Hn,go_sem]
 exact Ext.refl hwf
theorem Zagl (H:B.Qq T) (hwf:st.Wf) {v0 v1 v2:AV} {r:List AV} (hR:Rest v1 r) {ops:List Ob} {hp:List Ce} (r0:RdO st.h v0 ops) (r2:HpR st.h v2 hp) (hb:ops.length<1000000) (hs:HpS hp) (hpw:Pow st) (hbr:Bru st):
  Qt (call T (.fn 308 [] []) [.agg (v0::v1::v2::r),.str [103,116]] st) fun w s=>Ext st s∧Kn s w v0 v1 v2 r (No ops hp fun c=>decide (0<c)).1 (No ops hp fun c=>decide (0<c)).2 hp:=by
 refine Zw H.e H.f rfl ?_
 have hlen:=hR.len
 have ht:=hR.take
 have s0:=RdS.sc r0
 have s1:=hR.sc
 have s2:=r2.sc
 have sr:=hR.all
 have z1:∀v,Qd B.Qi 0 (v::v1::v2::r)=v::v1::v2::r:=fun v=>Z8 (by rw[hR.Yn,Zk])
 have d0:¬st.nx+1+1=st.nx:=by omega
 have d1:¬st.nx+1+1=st.nx+1:=by omega
 have d2:¬st.nx+1+1+1=st.nx:=by omega
 have d3:¬st.nx+1+1+1=st.nx+1:=by omega
 have d4:¬st.nx+1+1+1=st.nx+1+1:=by omega
 have d5:¬st.nx+1+1+1+1=st.nx:=by omega
 have d6:¬st.nx+1+1+1+1=st.nx+1:=by omega
 have d7:¬st.nx+1+1+1+1=st.nx+1+1:=by omega
 have d8:¬st.nx+1+1+1+1=st.nx+1+1+1:=by omega
 have xA:=((((Ext.refl hwf).Zf (o:= .cells 457 true (v0::v1::v2::r)) (Nat.lt_succ_self st.nx)).Zf (o:= .cells 457 true B.Qi) (Nat.lt_succ_self (st.nx+1))).Zf (o:= .cells 493 true (v0::v1::v2::r)) (Nat.lt_succ_self (st.nx+1+1))).Zf (o:=(.map [(.str [108,116],.fn 330 [] []),(.str [108,101],.fn 331 [] []),(.str [103,116],.fn 332 [] []),(.str [103,101],.fn 333 [] [])])) (Nat.lt_succ_self (st.nx+1+1+1))
 simp (disch:=omega) [B.Qv,go_sem,hlen,ht,d0,d1,d2,d3,d4,d5,d6,d7,d8,z1,Zk,s0,s1,s2,sr,Mb,Ug,Qo,Uv]
 refine(Zig H.Jp xA.wf hR (r0.ext xA hwf) (r2.ext xA hwf) hb (f:=fun c=>decide (0<c)) (fun s c hw=>Zs7 H.Hn hw c)).mono ?_
 rintro w q9 ⟨x9,ha⟩
 have k9:=x9.Zd
 have y9:=xA.trans x9
 have n9:=x9.nx
 try simp only at n9 k9
 have ha:=ha.toH (r2.ext y9 hwf)
 obtain⟨X,e',rfl,hX,hXs,hXt,hXz⟩:=ha.shape hR s0 s2
 have g:Zh q9.h (st.nx+1)=some (.cells 457 true B.Qi):=by
  rw[k9 _ (by omega)]
  simp (disch:=omega) [Zg,d0,d1,d2,d3,d4,d5,d6,d7,d8]
 simp (disch:=omega) [go_sem,reI,wanted,k9,hX,hXs,hXt,hXz,Zk,d0,d1,d2,d3,d4,d5,d6,d7,d8]
 have z:=Ext.Qw (st:=st) (h:=q9.h) (m:=q9.nx) (n:=st.nx+1) (o:= .cells 457 true X) y9 (by omega)
 exact⟨z.Zb,Kn.Zb (st:=⟨_,q9.nx⟩) (ha.Z7 g rfl) z.wf⟩
theorem Zs8 (H:B.Ou T) (hwf:st.Wf) (c:Int):Z9 T st (.fn 333 [] []) [.int .i64 c] (.bool ((fun c=>decide (0≤c)) c)):=by
 refine Zm H.e H.f rfl ?_
 simp[B.Ho,go_sem]
 exact Ext.refl hwf
theorem Zagk (H:B.Qq T) (hwf:st.Wf) {v0 v1 v2:AV} {r:List AV} (hR:Rest v1 r) {ops:List Ob} {hp:List Ce} (r0:RdO st.h v0 ops) (r2:HpR st.h v2 hp) (hb:ops.length<1000000) (hs:HpS hp) (hpw:Pow st) (hbr:Bru st):
  Qt (call T (.fn 308 [] []) [.agg (v0::v1::v2::r),.str [103,101]] st) fun w s=>Ext st s∧Kn s w v0 v1 v2 r (No ops hp fun c=>decide (0≤c)).1 (No ops hp fun c=>decide (0≤c)).2 hp:=by
 refine Zw H.e H.f rfl ?_
 have hlen:=hR.len
 have ht:=hR.take
 have s0:=RdS.sc r0
 have s1:=hR.sc
 have s2:=r2.sc
 have sr:=hR.all
 have z1:∀v,Qd B.Qi 0 (v::v1::v2::r)=v::v1::v2::r:=fun v=>Z8 (by rw[hR.Yn,Zk])
 have d0:¬st.nx+1+1=st.nx:=by omega
 have d1:¬st.nx+1+1=st.nx+1:=by omega
 have d2:¬st.nx+1+1+1=st.nx:=by omega
 have d3:¬st.nx+1+1+1=st.nx+1:=by omega
 have d4:¬st.nx+1+1+1=st.nx+1+1:=by omega
 have d5:¬st.nx+1+1+1+1=st.nx:=by omega
 have d6:¬st.nx+1+1+1+1=st.nx+1:=by omega
 have d7:¬st.nx+1+1+1+1=st.nx+1+1:=by omega
 have d8:¬st.nx+1+1+1+1=st.nx+1+1+1:=by omega
 have xA:=((((Ext.refl hwf).Zf (o:= .cells 457 true (v0::v1::v2::r)) (Nat.lt_succ_self st.nx)).Zf (o:= .cells 457 true B.Qi) (Nat.lt_succ_self (st.nx+1))).Zf (o:= .cells 493 true (v0::v1::v2::r)) (Nat.lt_succ_self (st.nx+1+1))).Zf (o:=(.map [(.str [108,116],.fn 330 [] []),(.str [108,101],.fn 331 [] []),(.str [103,116],.fn 332 [] []),(.str [103,101],.fn 333 [] [])])) (Nat.lt_succ_self (st.nx+1+1+1))
 simp (disch:=omega) [B.Qv,go_sem,hlen,ht,d0,d1,d2,d3,d4,d5,d6,d7,d8,z1,Zk,s0,s1,s2,sr,Mb,Ug,Qo,Uv]
 refine(Zig H.Jp xA.wf hR (r0.ext xA hwf) (r2.ext xA hwf) hb (f:=fun c=>decide (0≤c)) (fun s c hw=>Zs8 H.Ho hw c)).mono ?_
 rintro w q9 ⟨x9,ha⟩
 have k9:=x9.Zd
 have y9:=xA.trans x9
 have n9:=x9.nx
 try simp only at n9 k9
 have ha:=ha.toH (r2.ext y9 hwf)
 obtain⟨X,e',rfl,hX,hXs,hXt,hXz⟩:=ha.shape hR s0 s2
 have g:Zh q9.h (st.nx+1)=some (.cells 457 true B.Qi):=by
  rw[k9 _ (by omega)]
  simp (disch:=omega) [Zg,d0,d1,d2,d3,d4,d5,d6,d7,d8]
 simp (disch:=omega) [go_sem,reI,wanted,k9,hX,hXs,hXt,hXz,Zk,d0,d1,d2,d3,d4,d5,d6,d7,d8]
 have z:=Ext.Qw (st:=st) (h:=q9.h) (m:=q9.nx) (n:=st.nx+1) (o:= .cells 457 true X) y9 (by omega)
 exact⟨z.Zb,Kn.Zb (st:=⟨_,q9.nx⟩) (ha.Z7 g rfl) z.wf⟩
theorem Zs9 (H:B.Ov T) (hwf:st.Wf) (a b:Int):Z9 T st (.fn 335 [] []) [.int .i64 a,.int .i64 b] (.int .i64 (Zbe .i64 a b)):=by
 refine Zm H.e H.f rfl ?_
 simp[B.Hp,go_sem]
 exact Ext.refl hwf
theorem Zadp (H:B.Qq T) (hwf:st.Wf) {v0 v1 v2:AV} {r:List AV} (hR:Rest v1 r) {ops:List Ob} {hp:List Ce} (r0:RdO st.h v0 ops) (r2:HpR st.h v2 hp) (hb:ops.length<1000000) (hs:HpS hp) (hpw:Pow st) (hbr:Bru st):
  Qt (call T (.fn 308 [] []) [.agg (v0::v1::v2::r),.str [97,110,100]] st) fun w s=>Ext st s∧Kn s w v0 v1 v2 r (Eg ops (Zbe .i64)).1 (Eg ops (Zbe .i64)).2 hp:=by
 refine Zw H.e H.f rfl ?_
 have hlen:=hR.len
 have ht:=hR.take
 have s0:=RdS.sc r0
 have s1:=hR.sc
 have s2:=r2.sc
 have sr:=hR.all
 have z1:∀v,Qd B.Qi 0 (v::v1::v2::r)=v::v1::v2::r:=fun v=>Z8 (by rw[hR.Yn,Zk])
 have d0:¬st.nx+1+1=st.nx:=by omega
 have d1:¬st.nx+1+1=st.nx+1:=by omega
 have d2:¬st.nx+1+1+1=st.nx:=by omega
 have d3:¬st.nx+1+1+1=st.nx+1:=by omega
 have d4:¬st.nx+1+1+1=st.nx+1+1:=by omega
 have d5:¬st.nx+1+1+1+1=st.nx:=by omega
 have d6:¬st.nx+1+1+1+1=st.nx+1:=by omega
 have d7:¬st.nx+1+1+1+1=st.nx+1+1:=by omega
 have d8:¬st.nx+1+1+1+1=st.nx+1+1+1:=by omega
 have xA:=((((Ext.refl hwf).Zf (o:= .cells 457 true (v0::v1::v2::r)) (Nat.lt_succ_self st.nx)).Zf (o:= .cells 457 true B.Qi) (Nat.lt_succ_self (st.nx+1))).Zf (o:= .cells 493 true (v0::v1::v2::r)) (Nat.lt_succ_self (st.nx+1+1))).Zf (o:=(.map [(.str [108,116],.fn 330 [] []),(.str [108,101],.fn 331 [] []),(.str [103,116],.fn 332 [] []),(.str [103,101],.fn 333 [] [])])) (Nat.lt_succ_self (st.nx+1+1+1))
 have xB:=xA.Zf (o:=(.map [(.str [97,110,100],.fn 335 [] []),(.str [111,114],.fn 336 [] []),(.str [120,111,114],.fn 337 [] [])])) (Nat.lt_succ_self (st.nx+1+1+1+1))
 simp (disch:=omega) [B.Qv,go_sem,hlen,ht,d0,d1,d2,d3,d4,d5,d6,d7,d8,z1,Zk,s0,s1,s2,sr,Mb,Ug,Qo,Uv]
 refine(Ziy H.K4 xB.wf hR (r0.ext xB hwf) (r2.ext xB hwf) hb (F:=Zbe .i64) (fun s a b hw=>Zs9 H.Hp hw a b)).mono ?_
 rintro w q9 ⟨x9,ha⟩
 have k9:=x9.Zd
 have y9:=xB.trans x9
 have n9:=x9.nx
 try simp only at n9 k9
 have ha:=ha.toH (r2.ext y9 hwf)
 obtain⟨X,e',rfl,hX,hXs,hXt,hXz⟩:=ha.shape hR s0 s2
 have g:Zh q9.h (st.nx+1)=some (.cells 457 true B.Qi):=by
  rw[k9 _ (by omega)]
  simp (disch:=omega) [Zg,d0,d1,d2,d3,d4,d5,d6,d7,d8]
 simp (disch:=omega) [go_sem,reI,wanted,k9,hX,hXs,hXt,hXz,Zk,d0,d1,d2,d3,d4,d5,d6,d7,d8]
 have z:=Ext.Qw (st:=st) (h:=q9.h) (m:=q9.nx) (n:=st.nx+1) (o:= .cells 457 true X) y9 (by omega)
 exact⟨z.Zb,Kn.Zb (st:=⟨_,q9.nx⟩) (ha.Z7 g rfl) z.wf⟩
theorem Zta (H:B.Ow T) (hwf:st.Wf) (a b:Int):Z9 T st (.fn 336 [] []) [.int .i64 a,.int .i64 b] (.int .i64 (ior .i64 a b)):=by
 refine Zm H.e H.f rfl ?_
 simp[B.Hq,go_sem]
 exact Ext.refl hwf
theorem Zagp (H:B.Qq T) (hwf:st.Wf) {v0 v1 v2:AV} {r:List AV} (hR:Rest v1 r) {ops:List Ob} {hp:List Ce} (r0:RdO st.h v0 ops) (r2:HpR st.h v2 hp) (hb:ops.length<1000000) (hs:HpS hp) (hpw:Pow st) (hbr:Bru st):
  Qt (call T (.fn 308 [] []) [.agg (v0::v1::v2::r),.str [111,114]] st) fun w s=>Ext st s∧Kn s w v0 v1 v2 r (Eg ops (ior .i64)).1 (Eg ops (ior .i64)).2 hp:=by
 refine Zw H.e H.f rfl ?_
 have hlen:=hR.len
 have ht:=hR.take
 have s0:=RdS.sc r0
 have s1:=hR.sc
 have s2:=r2.sc
 have sr:=hR.all
 have z1:∀v,Qd B.Qi 0 (v::v1::v2::r)=v::v1::v2::r:=fun v=>Z8 (by rw[hR.Yn,Zk])
 have d0:¬st.nx+1+1=st.nx:=by omega
 have d1:¬st.nx+1+1=st.nx+1:=by omega
 have d2:¬st.nx+1+1+1=st.nx:=by omega
 have d3:¬st.nx+1+1+1=st.nx+1:=by omega
 have d4:¬st.nx+1+1+1=st.nx+1+1:=by omega
 have d5:¬st.nx+1+1+1+1=st.nx:=by omega
 have d6:¬st.nx+1+1+1+1=st.nx+1:=by omega
 have d7:¬st.nx+1+1+1+1=st.nx+1+1:=by omega
 have d8:¬st.nx+1+1+1+1=st.nx+1+1+1:=by omega
 have xA:=((((Ext.refl hwf).Zf (o:= .cells 457 true (v0::v1::v2::r)) (Nat.lt_succ_self st.nx)).Zf (o:= .cells 457 true B.Qi) (Nat.lt_succ_self (st.nx+1))).Zf (o:= .cells 493 true (v0::v1::v2::r)) (Nat.lt_succ_self (st.nx+1+1))).Zf (o:=(.map [(.str [108,116],.fn 330 [] []),(.str [108,101],.fn 331 [] []),(.str [103,116],.fn 332 [] []),(.str [103,101],.fn 333 [] [])])) (Nat.lt_succ_self (st.nx+1+1+1))
 have xB:=xA.Zf (o:=(.map [(.str [97,110,100],.fn 335 [] []),(.str [111,114],.fn 336 [] []),(.str [120,111,114],.fn 337 [] [])])) (Nat.lt_succ_self (st.nx+1+1+1+1))
 simp (disch:=omega) [B.Qv,go_sem,hlen,ht,d0,d1,d2,d3,d4,d5,d6,d7,d8,z1,Zk,s0,s1,s2,sr,Mb,Ug,Qo,Uv]
 refine(Ziy H.K4 xB.wf hR (r0.ext xB hwf) (r2.ext xB hwf) hb (F:=ior .i64) (fun s a b hw=>Zta H.Hq hw a b)).mono ?_
 rintro w q9 ⟨x9,ha⟩
 have k9:=x9.Zd
 have y9:=xB.trans x9
 have n9:=x9.nx
 try simp only at n9 k9
 have ha:=ha.toH (r2.ext y9 hwf)
 obtain⟨X,e',rfl,hX,hXs,hXt,hXz⟩:=ha.shape hR s0 s2
 have g:Zh q9.h (st.nx+1)=some (.cells 457 true B.Qi):=by
  rw[k9 _ (by omega)]
  simp (disch:=omega) [Zg,d0,d1,d2,d3,d4,d5,d6,d7,d8]
 simp (disch:=omega) [go_sem,reI,wanted,k9,hX,hXs,hXt,hXz,Zk,d0,d1,d2,d3,d4,d5,d6,d7,d8]
 have z:=Ext.Qw (st:=st) (h:=q9.h) (m:=q9.nx) (n:=st.nx+1) (o:= .cells 457 true X) y9 (by omega)
 exact⟨z.Zb,Kn.Zb (st:=⟨_,q9.nx⟩) (ha.Z7 g rfl) z.wf⟩
theorem Ztb (H:B.Ox T) (hwf:st.Wf) (a b:Int):Z9 T st (.fn 337 [] []) [.int .i64 a,.int .i64 b] (.int .i64 (Ztp .i64 a b)):=by
 refine Zm H.e H.f rfl ?_
 simp[B.Hr,go_sem]
 exact Ext.refl hwf
theorem Zadw (H:B.Qq T) (hwf:st.Wf) {v0 v1 v2:AV} {r:List AV} (hR:Rest v1 r) {ops:List Ob} {hp:List Ce} (r0:RdO st.h v0 ops) (r2:HpR st.h v2 hp) (hb:ops.length<1000000) (hs:HpS hp) (hpw:Pow st) (hbr:Bru st):
  Qt (call T (.fn 308 [] []) [.agg (v0::v1::v2::r),.str [120,111,114]] st) fun w s=>Ext st s∧Kn s w v0 v1 v2 r (Eg ops (Ztp .i64)).1 (Eg ops (Ztp .i64)).2 hp:=by
 refine Zw H.e H.f rfl ?_
 have hlen:=hR.len
 have ht:=hR.take
 have s0:=RdS.sc r0
 have s1:=hR.sc
 have s2:=r2.sc
 have sr:=hR.all
 have z1:∀v,Qd B.Qi 0 (v::v1::v2::r)=v::v1::v2::r:=fun v=>Z8 (by rw[hR.Yn,Zk])
 have d0:¬st.nx+1+1=st.nx:=by omega
 have d1:¬st.nx+1+1=st.nx+1:=by omega
 have d2:¬st.nx+1+1+1=st.nx:=by omega
 have d3:¬st.nx+1+1+1=st.nx+1:=by omega
 have d4:¬st.nx+1+1+1=st.nx+1+1:=by omega
 have d5:¬st.nx+1+1+1+1=st.nx:=by omega
 have d6:¬st.nx+1+1+1+1=st.nx+1:=by omega
 have d7:¬st.nx+1+1+1+1=st.nx+1+1:=by omega
 have d8:¬st.nx+1+1+1+1=st.nx+1+1+1:=by omega
 have xA:=((((Ext.refl hwf).Zf (o:= .cells 457 true (v0::v1::v2::r)) (Nat.lt_succ_self st.nx)).Zf (o:= .cells 457 true B.Qi) (Nat.lt_succ_self (st.nx+1))).Zf (o:= .cells 493 true (v0::v1::v2::r)) (Nat.lt_succ_self (st.nx+1+1))).Zf (o:=(.map [(.str [108,116],.fn 330 [] []),(.str [108,101],.fn 331 [] []),(.str [103,116],.fn 332 [] []),(.str [103,101],.fn 333 [] [])])) (Nat.lt_succ_self (st.nx+1+1+1))
 have xB:=xA.Zf (o:=(.map [(.str [97,110,100],.fn 335 [] []),(.str [111,114],.fn 336 [] []),(.str [120,111,114],.fn 337 [] [])])) (Nat.lt_succ_self (st.nx+1+1+1+1))
 simp (disch:=omega) [B.Qv,go_sem,hlen,ht,d0,d1,d2,d3,d4,d5,d6,d7,d8,z1,Zk,s0,s1,s2,sr,Mb,Ug,Qo,Uv]
 refine(Ziy H.K4 xB.wf hR (r0.ext xB hwf) (r2.ext xB hwf) hb (F:=Ztp .i64) (fun s a b hw=>Ztb H.Hr hw a b)).mono ?_
 rintro w q9 ⟨x9,ha⟩
 have k9:=x9.Zd
 have y9:=xB.trans x9
 have n9:=x9.nx
 try simp only at n9 k9
 have ha:=ha.toH (r2.ext y9 hwf)
 obtain⟨X,e',rfl,hX,hXs,hXt,hXz⟩:=ha.shape hR s0 s2
 have g:Zh q9.h (st.nx+1)=some (.cells 457 true B.Qi):=by
  rw[k9 _ (by omega)]
  simp (disch:=omega) [Zg,d0,d1,d2,d3,d4,d5,d6,d7,d8]
 simp (disch:=omega) [go_sem,reI,wanted,k9,hX,hXs,hXt,hXz,Zk,d0,d1,d2,d3,d4,d5,d6,d7,d8]
 have z:=Ext.Qw (st:=st) (h:=q9.h) (m:=q9.nx) (n:=st.nx+1) (o:= .cells 457 true X) y9 (by omega)
 exact⟨z.Zb,Kn.Zb (st:=⟨_,q9.nx⟩) (ha.Z7 g rfl) z.wf⟩
theorem Zagj (H:B.Qq T) (hwf:st.Wf) {v0 v1 v2:AV} {r:List AV} (hR:Rest v1 r) {ops:List Ob} {hp:List Ce} (r0:RdO st.h v0 ops) (r2:HpR st.h v2 hp) (hb:ops.length<1000000) (hs:HpS hp) (hpw:Pow st) (hbr:Bru st):
  Qt (call T (.fn 308 [] []) [.agg (v0::v1::v2::r),.str [101,113]] st) fun w s=>Ext st s∧Kn s w v0 v1 v2 r (Dr ops hp true).1 (Dr ops hp true).2 hp:=by
 refine Zw H.e H.f rfl ?_
 have hlen:=hR.len
 have ht:=hR.take
 have s0:=RdS.sc r0
 have s1:=hR.sc
 have s2:=r2.sc
 have sr:=hR.all
 have z1:∀v,Qd B.Qi 0 (v::v1::v2::r)=v::v1::v2::r:=fun v=>Z8 (by rw[hR.Yn,Zk])
 have d0:¬st.nx+1+1=st.nx:=by omega
 have d1:¬st.nx+1+1=st.nx+1:=by omega
 have d2:¬st.nx+1+1+1=st.nx:=by omega
 have d3:¬st.nx+1+1+1=st.nx+1:=by omega
 have d4:¬st.nx+1+1+1=st.nx+1+1:=by omega
 have d5:¬st.nx+1+1+1+1=st.nx:=by omega
 have d6:¬st.nx+1+1+1+1=st.nx+1:=by omega
 have d7:¬st.nx+1+1+1+1=st.nx+1+1:=by omega
 have d8:¬st.nx+1+1+1+1=st.nx+1+1+1:=by omega
 have xA:=((((Ext.refl hwf).Zf (o:= .cells 457 true (v0::v1::v2::r)) (Nat.lt_succ_self st.nx)).Zf (o:= .cells 457 true B.Qi) (Nat.lt_succ_self (st.nx+1))).Zf (o:= .cells 493 true (v0::v1::v2::r)) (Nat.lt_succ_self (st.nx+1+1))).Zf (o:=(.map [(.str [108,116],.fn 330 [] []),(.str [108,101],.fn 331 [] []),(.str [103,116],.fn 332 [] []),(.str [103,101],.fn 333 [] [])])) (Nat.lt_succ_self (st.nx+1+1+1))
 have xB:=xA.Zf (o:=(.map [(.str [97,110,100],.fn 335 [] []),(.str [111,114],.fn 336 [] []),(.str [120,111,114],.fn 337 [] [])])) (Nat.lt_succ_self (st.nx+1+1+1+1))
 simp (disch:=omega) [B.Qv,go_sem,hlen,ht,d0,d1,d2,d3,d4,d5,d6,d7,d8,z1,Zk,s0,s1,s2,sr,Mb,Ug,Qo,Uv]
 refine(Zr3 H.Y9 xB.wf hR (r0.ext xB hwf) (r2.ext xB hwf) hb true).mono ?_
 rintro w q9 ⟨x9,ha⟩
 have k9:=x9.Zd
 have y9:=xB.trans x9
 have n9:=x9.nx
 try simp only at n9 k9
 have ha:=ha.toH (r2.ext y9 hwf)
 obtain⟨X,e',rfl,hX,hXs,hXt,hXz⟩:=ha.shape hR s0 s2
 have g:Zh q9.h (st.nx+1)=some (.cells 457 true B.Qi):=by
  rw[k9 _ (by omega)]
  simp (disch:=omega) [Zg,d0,d1,d2,d3,d4,d5,d6,d7,d8]
 simp (disch:=omega) [go_sem,reI,wanted,k9,hX,hXs,hXt,hXz,Zk,d0,d1,d2,d3,d4,d5,d6,d7,d8]
 have z:=Ext.Qw (st:=st) (h:=q9.h) (m:=q9.nx) (n:=st.nx+1) (o:= .cells 457 true X) y9 (by omega)
 exact⟨z.Zb,Kn.Zb (st:=⟨_,q9.nx⟩) (ha.Z7 g rfl) z.wf⟩
theorem Zago (H:B.Qq T) (hwf:st.Wf) {v0 v1 v2:AV} {r:List AV} (hR:Rest v1 r) {ops:List Ob} {hp:List Ce} (r0:RdO st.h v0 ops) (r2:HpR st.h v2 hp) (hb:ops.length<1000000) (hs:HpS hp) (hpw:Pow st) (hbr:Bru st):
  Qt (call T (.fn 308 [] []) [.agg (v0::v1::v2::r),.str [110,101]] st) fun w s=>Ext st s∧Kn s w v0 v1 v2 r (Dr ops hp false).1 (Dr ops hp false).2 hp:=by
 refine Zw H.e H.f rfl ?_
 have hlen:=hR.len
 have ht:=hR.take
 have s0:=RdS.sc r0
 have s1:=hR.sc
 have s2:=r2.sc
 have sr:=hR.all
 have z1:∀v,Qd B.Qi 0 (v::v1::v2::r)=v::v1::v2::r:=fun v=>Z8 (by rw[hR.Yn,Zk])
 have d0:¬st.nx+1+1=st.nx:=by omega
 have d1:¬st.nx+1+1=st.nx+1:=by omega
 have d2:¬st.nx+1+1+1=st.nx:=by omega
 have d3:¬st.nx+1+1+1=st.nx+1:=by omega
 have d4:¬st.nx+1+1+1=st.nx+1+1:=by omega
 have d5:¬st.nx+1+1+1+1=st.nx:=by omega
 have d6:¬st.nx+1+1+1+1=st.nx+1:=by omega
 have d7:¬st.nx+1+1+1+1=st.nx+1+1:=by omega
 have d8:¬st.nx+1+1+1+1=st.nx+1+1+1:=by omega
 have xA:=((((Ext.refl hwf).Zf (o:= .cells 457 true (v0::v1::v2::r)) (Nat.lt_succ_self st.nx)).Zf (o:= .cells 457 true B.Qi) (Nat.lt_succ_self (st.nx+1))).Zf (o:= .cells 493 true (v0::v1::v2::r)) (Nat.lt_succ_self (st.nx+1+1))).Zf (o:=(.map [(.str [108,116],.fn 330 [] []),(.str [108,101],.fn 331 [] []),(.str [103,116],.fn 332 [] []),(.str [103,101],.fn 333 [] [])])) (Nat.lt_succ_self (st.nx+1+1+1))
 have xB:=xA.Zf (o:=(.map [(.str [97,110,100],.fn 335 [] []),(.str [111,114],.fn 336 [] []),(.str [120,111,114],.fn 337 [] [])])) (Nat.lt_succ_self (st.nx+1+1+1+1))
 simp (disch:=omega) [B.Qv,go_sem,hlen,ht,d0,d1,d2,d3,d4,d5,d6,d7,d8,z1,Zk,s0,s1,s2,sr,Mb,Ug,Qo,Uv]
 refine(Zr3 H.Y9 xB.wf hR (r0.ext xB hwf) (r2.ext xB hwf) hb false).mono ?_
 rintro w q9 ⟨x9,ha⟩
 have k9:=x9.Zd
 have y9:=xB.trans x9
 have n9:=x9.nx
 try simp only at n9 k9
 have ha:=ha.toH (r2.ext y9 hwf)
 obtain⟨X,e',rfl,hX,hXs,hXt,hXz⟩:=ha.shape hR s0 s2
 have g:Zh q9.h (st.nx+1)=some (.cells 457 true B.Qi):=by
  rw[k9 _ (by omega)]
  simp (disch:=omega) [Zg,d0,d1,d2,d3,d4,d5,d6,d7,d8]
 simp (disch:=omega) [go_sem,reI,wanted,k9,hX,hXs,hXt,hXz,Zk,d0,d1,d2,d3,d4,d5,d6,d7,d8]
 have z:=Ext.Qw (st:=st) (h:=q9.h) (m:=q9.nx) (n:=st.nx+1) (o:= .cells 457 true X) y9 (by omega)
 exact⟨z.Zb,Kn.Zb (st:=⟨_,q9.nx⟩) (ha.Z7 g rfl) z.wf⟩
theorem Zadv (H:B.Qq T) (hwf:st.Wf) {v0 v1 v2:AV} {r:List AV} (hR:Rest v1 r) {ops:List Ob} {hp:List Ce} (r0:RdO st.h v0 ops) (r2:HpR st.h v2 hp) (hb:ops.length<1000000) (hs:HpS hp) (hpw:Pow st) (hbr:Bru st):
  Qt (call T (.fn 308 [] []) [.agg (v0::v1::v2::r),.str [110,111,116]] st) fun w s=>Ext st s∧Kn s w v0 v1 v2 r (Zo8 ops).1 (Zo8 ops).2 hp:=by
 refine Zw H.e H.f rfl ?_
 have hlen:=hR.len
 have ht:=hR.take
 have s0:=RdS.sc r0
 have s1:=hR.sc
 have s2:=r2.sc
 have sr:=hR.all
 have z1:∀v,Qd B.Qi 0 (v::v1::v2::r)=v::v1::v2::r:=fun v=>Z8 (by rw[hR.Yn,Zk])
 have d0:¬st.nx+1+1=st.nx:=by omega
 have d1:¬st.nx+1+1=st.nx+1:=by omega
 have d2:¬st.nx+1+1+1=st.nx:=by omega
 have d3:¬st.nx+1+1+1=st.nx+1:=by omega
 have d4:¬st.nx+1+1+1=st.nx+1+1:=by omega
 have d5:¬st.nx+1+1+1+1=st.nx:=by omega
 have d6:¬st.nx+1+1+1+1=st.nx+1:=by omega
 have d7:¬st.nx+1+1+1+1=st.nx+1+1:=by omega
 have d8:¬st.nx+1+1+1+1=st.nx+1+1+1:=by omega
 have xA:=((((Ext.refl hwf).Zf (o:= .cells 457 true (v0::v1::v2::r)) (Nat.lt_succ_self st.nx)).Zf (o:= .cells 457 true B.Qi) (Nat.lt_succ_self (st.nx+1))).Zf (o:= .cells 493 true (v0::v1::v2::r)) (Nat.lt_succ_self (st.nx+1+1))).Zf (o:=(.map [(.str [108,116],.fn 330 [] []),(.str [108,101],.fn 331 [] []),(.str [103,116],.fn 332 [] []),(.str [103,101],.fn 333 [] [])])) (Nat.lt_succ_self (st.nx+1+1+1))
 have xB:=xA.Zf (o:=(.map [(.str [97,110,100],.fn 335 [] []),(.str [111,114],.fn 336 [] []),(.str [120,111,114],.fn 337 [] [])])) (Nat.lt_succ_self (st.nx+1+1+1+1))
 simp (disch:=omega) [B.Qv,go_sem,hlen,ht,d0,d1,d2,d3,d4,d5,d6,d7,d8,z1,Zk,s0,s1,s2,sr,Mb,Ug,Qo,Uv]
 refine(Zaa4 H.Wa xB.wf hR (r0.ext xB hwf) (r2.ext xB hwf) hb).mono ?_
 rintro w q9 ⟨x9,ha⟩
 have k9:=x9.Zd
 have y9:=xB.trans x9
 have n9:=x9.nx
 try simp only at n9 k9
 have ha:=ha.toH (r2.ext y9 hwf)
 obtain⟨X,e',rfl,hX,hXs,hXt,hXz⟩:=ha.shape hR s0 s2
 have g:Zh q9.h (st.nx+1)=some (.cells 457 true B.Qi):=by
  rw[k9 _ (by omega)]
  simp (disch:=omega) [Zg,d0,d1,d2,d3,d4,d5,d6,d7,d8]
 simp (disch:=omega) [go_sem,reI,wanted,k9,hX,hXs,hXt,hXz,Zk,d0,d1,d2,d3,d4,d5,d6,d7,d8]
 have z:=Ext.Qw (st:=st) (h:=q9.h) (m:=q9.nx) (n:=st.nx+1) (o:= .cells 457 true X) y9 (by omega)
 exact⟨z.Zb,Kn.Zb (st:=⟨_,q9.nx⟩) (ha.Z7 g rfl) z.wf⟩
theorem Zqi (H:B.Qq T) (hwf:st.Wf) {v0 v1 v2:AV} {r:List AV} (hR:Rest v1 r) {ops:List Ob} {hp:List Ce} (r0:RdO st.h v0 ops) (r2:HpR st.h v2 hp) (hb:ops.length<1000000) (hs:HpS hp) (hpw:Pow st) (hbr:Bru st):
  Qt (call T (.fn 308 [] []) [.agg (v0::v1::v2::r),.str [98,105,116,115,104,105,102,116]] st) fun w s=>Ext st s∧Kn s w v0 v1 v2 r (P4 ops).1 (P4 ops).2 hp:=by
 refine Zw H.e H.f rfl ?_
 have hlen:=hR.len
 have ht:=hR.take
 have s0:=RdS.sc r0
 have s1:=hR.sc
 have s2:=r2.sc
 have sr:=hR.all
 have z1:∀v,Qd B.Qi 0 (v::v1::v2::r)=v::v1::v2::r:=fun v=>Z8 (by rw[hR.Yn,Zk])
 have d0:¬st.nx+1+1=st.nx:=by omega
 have d1:¬st.nx+1+1=st.nx+1:=by omega
 have d2:¬st.nx+1+1+1=st.nx:=by omega
 have d3:¬st.nx+1+1+1=st.nx+1:=by omega
 have d4:¬st.nx+1+1+1=st.nx+1+1:=by omega
 have d5:¬st.nx+1+1+1+1=st.nx:=by omega
 have d6:¬st.nx+1+1+1+1=st.nx+1:=by omega
 have d7:¬st.nx+1+1+1+1=st.nx+1+1:=by omega
 have d8:¬st.nx+1+1+1+1=st.nx+1+1+1:=by omega
 have xA:=((((Ext.refl hwf).Zf (o:= .cells 457 true (v0::v1::v2::r)) (Nat.lt_succ_self st.nx)).Zf (o:= .cells 457 true B.Qi) (Nat.lt_succ_self (st.nx+1))).Zf (o:= .cells 493 true (v0::v1::v2::r)) (Nat.lt_succ_self (st.nx+1+1))).Zf (o:=(.map [(.str [108,116],.fn 330 [] []),(.str [108,101],.fn 331 [] []),(.str [103,116],.fn 332 [] []),(.str [103,101],.fn 333 [] [])])) (Nat.lt_succ_self (st.nx+1+1+1))
 have xB:=xA.Zf (o:=(.map [(.str [97,110,100],.fn 335 [] []),(.str [111,114],.fn 336 [] []),(.str [120,111,114],.fn 337 [] [])])) (Nat.lt_succ_self (st.nx+1+1+1+1))
 simp (disch:=omega) [B.Qv,go_sem,hlen,ht,d0,d1,d2,d3,d4,d5,d6,d7,d8,z1,Zk,s0,s1,s2,sr,Mb,Ug,Qo,Uv]
 refine(Zww H.K5 xB.wf hR (r0.ext xB hwf) (r2.ext xB hwf) hb).mono ?_
 rintro w q9 ⟨x9,ha⟩
 have k9:=x9.Zd
 have y9:=xB.trans x9
 have n9:=x9.nx
 try simp only at n9 k9
 have ha:=ha.toH (r2.ext y9 hwf)
 obtain⟨X,e',rfl,hX,hXs,hXt,hXz⟩:=ha.shape hR s0 s2
 have g:Zh q9.h (st.nx+1)=some (.cells 457 true B.Qi):=by
  rw[k9 _ (by omega)]
  simp (disch:=omega) [Zg,d0,d1,d2,d3,d4,d5,d6,d7,d8]
 simp (disch:=omega) [go_sem,reI,wanted,k9,hX,hXs,hXt,hXz,Zk,d0,d1,d2,d3,d4,d5,d6,d7,d8]
 have z:=Ext.Qw (st:=st) (h:=q9.h) (m:=q9.nx) (n:=st.nx+1) (o:= .cells 457 true X) y9 (by omega)
 exact⟨z.Zb,Kn.Zb (st:=⟨_,q9.nx⟩) (ha.Z7 g rfl) z.wf⟩
end Go.Ev

/- Do told: the other operators. -/
namespace Go.Ev
open Go
variable {T : Tab} {st st' : St}
theorem Zkp (H:B.Gp T) (hwf:st.Wf) {v0 v1 v2:AV} {r:List AV} (hR:Rest v1 r) {ops:List Ob} {hp:List Ce} (r0:RdO st.h v0 ops) (r2:HpR st.h v2 hp) (hb:ops.length<1000000) {vl:AV} {o:Ob} (hl:RdO st.h vl [o]):
  Qt (call T (.fn 344 [] []) [.agg (v0::v1::v2::r),vl] st) fun w s=>Ext st s∧Ans s w v0 v1 v2 r (Fp ops o).1 (Fp ops o).2:=by
 refine(Zrt H hwf hR r0 r2 hl ⟨hb,by simp⟩).mono ?_
 rintro w s ⟨x,⟨h,rfl⟩ | ⟨h,v',rfl,hv⟩⟩
 ·refine⟨x,.inl ⟨?_,?_⟩⟩
  ·simp only[Fp,List.length_singleton]at h⊢;rw[if_pos h];decide
  ·simp only[Fp,List.length_singleton]at h⊢;rw[if_pos h]
 ·refine⟨x,.inr ⟨?_,v',rfl,hv⟩⟩
  simp only[Fp,List.length_singleton]at h⊢;rw[if_neg (by omega)]
theorem Zaae (H:B.Qq T) (hwf:st.Wf) {v0 v1 v2:AV} {r:List AV} (hR:Rest v1 r) {ops:List Ob} {hp:List Ce} (r0:RdO st.h v0 ops) (r2:HpR st.h v2 hp) (hb:ops.length<1000000) (hs:HpS hp) (hpw:Pow st) (hbr:Bru st):
  Qt (call T (.fn 308 [] []) [.agg (v0::v1::v2::r),.str [116,114,117,101]] st) fun w s=>Ext st s∧Kn s w v0 v1 v2 r (Fp ops (Qp true)).1 (Fp ops (Qp true)).2 hp:=by
 refine Zw H.e H.f rfl ?_
 have hlen:=hR.len
 have ht:=hR.take
 have s0:=RdS.sc r0
 have s1:=hR.sc
 have s2:=r2.sc
 have sr:=hR.all
 have z1:∀v,Qd B.Qi 0 (v::v1::v2::r)=v::v1::v2::r:=fun v=>Z8 (by rw[hR.Yn,Zk])
 have d0:¬st.nx+1+1=st.nx:=by omega
 have d1:¬st.nx+1+1=st.nx+1:=by omega
 have d2:¬st.nx+1+1+1=st.nx:=by omega
 have d3:¬st.nx+1+1+1=st.nx+1:=by omega
 have d4:¬st.nx+1+1+1=st.nx+1+1:=by omega
 have d5:¬st.nx+1+1+1+1=st.nx:=by omega
 have d6:¬st.nx+1+1+1+1=st.nx+1:=by omega
 have d7:¬st.nx+1+1+1+1=st.nx+1+1:=by omega
 have d8:¬st.nx+1+1+1+1=st.nx+1+1+1:=by omega
 have xA:=((((Ext.refl hwf).Zf (o:= .cells 457 true (v0::v1::v2::r)) (Nat.lt_succ_self st.nx)).Zf (o:= .cells 457 true B.Qi) (Nat.lt_succ_self (st.nx+1))).Zf (o:= .cells 493 true (v0::v1::v2::r)) (Nat.lt_succ_self (st.nx+1+1))).Zf (o:=(.map [(.str [108,116],.fn 330 [] []),(.str [108,101],.fn 331 [] []),(.str [103,116],.fn 332 [] []),(.str [103,101],.fn 333 [] [])])) (Nat.lt_succ_self (st.nx+1+1+1))
 have xB:=xA.Zf (o:=(.map [(.str [97,110,100],.fn 335 [] []),(.str [111,114],.fn 336 [] []),(.str [120,111,114],.fn 337 [] [])])) (Nat.lt_succ_self (st.nx+1+1+1+1))
 simp (disch:=omega) [B.Qv,go_sem,hlen,ht,d0,d1,d2,d3,d4,d5,d6,d7,d8,z1,Zk,s0,s1,s2,sr,Mb,Ug,Qo,Uv]
 have y1:=xB.upN (m:=st.nx+1+1+1+1+1+11) (by omega)
 refine(Lf H.Kp y1.wf true).use fun q2 x2=> ?_
 have k2:=x2.Zd
 have y2:=y1.trans x2
 have n2:=x2.nx
 simp only at k2 n2
 have f1:Zh q2.h (st.nx+1+1+1+1+1)=none:=by
  rw[k2 _ (by omega)]
  simp only[Zg]
  rw[if_neg (by omega),if_neg (by omega),if_neg (by omega),if_neg (by omega),if_neg (by omega)]
  cases hq:Zh st.h (st.nx+1+1+1+1+1)with
  | none=>rfl
  | some q=>have:=hwf.lt _ _ hq;omega
 have y3:=Ext.Zur (st:=st) (h:=q2.h) (m:=q2.nx) y2 f1 (by omega) (by omega) (o:= .cells 451 false (Qp true).A)
 have e1:¬st.nx+1+1+1+1+1=st.nx:=by omega
 have e2:¬st.nx+1+1+1+1+1=st.nx+1:=by omega
 have e3:¬st.nx+1+1+1+1+1=st.nx+1+1:=by omega
 have ho:=Zil (Qp true) q2.h (st.nx+1+1+1+1+1)
 simp (disch:=omega) [go_sem,reI,wanted,k2,hlen,ht,B.zOb,e1,e2,e3,d0,d1,d2,d3,d4,d5,d6,d7,d8]
 refine(Zkp H.Uw y3.wf hR (r0.ext y3 hwf) (r2.ext y3 hwf) hb ho).mono ?_
 rintro w q9 ⟨x9,ha⟩
 have k9:=x9.Zd
 have y9:=y3.trans x9
 have n9:=x9.nx
 try simp only at n9 k9
 have ha:=ha.toH (r2.ext y9 hwf)
 obtain⟨X,e',rfl,hX,hXs,hXt,hXz⟩:=ha.shape hR s0 s2
 have g:Zh q9.h (st.nx+1)=some (.cells 457 true B.Qi):=by
  rw[k9 _ (by omega)]
  simp (disch:=omega) [k2,Zg,d0,d1,d2,d3,d4,d5,d6,d7,d8,e1,e2,e3]
 simp (disch:=omega) [go_sem,reI,wanted,k9,k2,hX,hXs,hXt,hXz,Zk,d0,d1,d2,d3,d4,d5,d6,d7,d8,e1,e2,e3]
 have z:=Ext.Qw (st:=st) (h:=q9.h) (m:=q9.nx) (n:=st.nx+1) (o:= .cells 457 true X) y9 (by omega)
 exact⟨z.Zb,Kn.Zb (st:=⟨_,q9.nx⟩) (ha.Z7 g rfl) z.wf⟩
theorem Zxw (H:B.Qq T) (hwf:st.Wf) {v0 v1 v2:AV} {r:List AV} (hR:Rest v1 r) {ops:List Ob} {hp:List Ce} (r0:RdO st.h v0 ops) (r2:HpR st.h v2 hp) (hb:ops.length<1000000) (hs:HpS hp) (hpw:Pow st) (hbr:Bru st):
  Qt (call T (.fn 308 [] []) [.agg (v0::v1::v2::r),.str [102,97,108,115,101]] st) fun w s=>Ext st s∧Kn s w v0 v1 v2 r (Fp ops (Qp false)).1 (Fp ops (Qp false)).2 hp:=by
 refine Zw H.e H.f rfl ?_
 have hlen:=hR.len
 have ht:=hR.take
 have s0:=RdS.sc r0
 have s1:=hR.sc
 have s2:=r2.sc
 have sr:=hR.all
 have z1:∀v,Qd B.Qi 0 (v::v1::v2::r)=v::v1::v2::r:=fun v=>Z8 (by rw[hR.Yn,Zk])
 have d0:¬st.nx+1+1=st.nx:=by omega
 have d1:¬st.nx+1+1=st.nx+1:=by omega
 have d2:¬st.nx+1+1+1=st.nx:=by omega
 have d3:¬st.nx+1+1+1=st.nx+1:=by omega
 have d4:¬st.nx+1+1+1=st.nx+1+1:=by omega
 have d5:¬st.nx+1+1+1+1=st.nx:=by omega
 have d6:¬st.nx+1+1+1+1=st.nx+1:=by omega
 have d7:¬st.nx+1+1+1+1=st.nx+1+1:=by omega
 have d8:¬st.nx+1+1+1+1=st.nx+1+1+1:=by omega
 have xA:=((((Ext.refl hwf).Zf (o:= .cells 457 true (v0::v1::v2::r)) (Nat.lt_succ_self st.nx)).Zf (o:= .cells 457 true B.Qi) (Nat.lt_succ_self (st.nx+1))).Zf (o:= .cells 493 true (v0::v1::v2::r)) (Nat.lt_succ_self (st.nx+1+1))).Zf (o:=(.map [(.str [108,116],.fn 330 [] []),(.str [108,101],.fn 331 [] []),(.str [103,116],.fn 332 [] []),(.str [103,101],.fn 333 [] [])])) (Nat.lt_succ_self (st.nx+1+1+1))
 have xB:=xA.Zf (o:=(.map [(.str [97,110,100],.fn 335 [] []),(.str [111,114],.fn 336 [] []),(.str [120,111,114],.fn 337 [] [])])) (Nat.lt_succ_self (st.nx+1+1+1+1))
 simp (disch:=omega) [B.Qv,go_sem,hlen,ht,d0,d1,d2,d3,d4,d5,d6,d7,d8,z1,Zk,s0,s1,s2,sr,Mb,Ug,Qo,Uv]
 have y1:=xB.upN (m:=st.nx+1+1+1+1+1+11) (by omega)
 refine(Lf H.Kp y1.wf false).use fun q2 x2=> ?_
 have k2:=x2.Zd
 have y2:=y1.trans x2
 have n2:=x2.nx
 simp only at k2 n2
 have f1:Zh q2.h (st.nx+1+1+1+1+1)=none:=by
  rw[k2 _ (by omega)]
  simp only[Zg]
  rw[if_neg (by omega),if_neg (by omega),if_neg (by omega),if_neg (by omega),if_neg (by omega)]
  cases hq:Zh st.h (st.nx+1+1+1+1+1)with
  | none=>rfl
  | some q=>have:=hwf.lt _ _ hq;omega
 have y3:=Ext.Zur (st:=st) (h:=q2.h) (m:=q2.nx) y2 f1 (by omega) (by omega) (o:= .cells 451 false (Qp false).A)
 have e1:¬st.nx+1+1+1+1+1=st.nx:=by omega
 have e2:¬st.nx+1+1+1+1+1=st.nx+1:=by omega
 have e3:¬st.nx+1+1+1+1+1=st.nx+1+1:=by omega
 have ho:=Zil (Qp false) q2.h (st.nx+1+1+1+1+1)
 simp (disch:=omega) [go_sem,reI,wanted,k2,hlen,ht,B.zOb,e1,e2,e3,d0,d1,d2,d3,d4,d5,d6,d7,d8]
 refine(Zkp H.Uw y3.wf hR (r0.ext y3 hwf) (r2.ext y3 hwf) hb ho).mono ?_
 rintro w q9 ⟨x9,ha⟩
 have k9:=x9.Zd
 have y9:=y3.trans x9
 have n9:=x9.nx
 try simp only at n9 k9
 have ha:=ha.toH (r2.ext y9 hwf)
 obtain⟨X,e',rfl,hX,hXs,hXt,hXz⟩:=ha.shape hR s0 s2
 have g:Zh q9.h (st.nx+1)=some (.cells 457 true B.Qi):=by
  rw[k9 _ (by omega)]
  simp (disch:=omega) [k2,Zg,d0,d1,d2,d3,d4,d5,d6,d7,d8,e1,e2,e3]
 simp (disch:=omega) [go_sem,reI,wanted,k9,k2,hX,hXs,hXt,hXz,Zk,d0,d1,d2,d3,d4,d5,d6,d7,d8,e1,e2,e3]
 have z:=Ext.Qw (st:=st) (h:=q9.h) (m:=q9.nx) (n:=st.nx+1) (o:= .cells 457 true X) y9 (by omega)
 exact⟨z.Zb,Kn.Zb (st:=⟨_,q9.nx⟩) (ha.Z7 g rfl) z.wf⟩
theorem Zaad (H:B.Qq T) (hwf:st.Wf) {v0 v1 v2:AV} {r:List AV} (hR:Rest v1 r) {ops:List Ob} {hp:List Ce} (r0:RdO st.h v0 ops) (r2:HpR st.h v2 hp) (hb:ops.length<1000000) (hs:HpS hp) (hpw:Pow st) (hbr:Bru st):
  Qt (call T (.fn 308 [] []) [.agg (v0::v1::v2::r),.str [110,117,108,108]] st) fun w s=>Ext st s∧Kn s w v0 v1 v2 r (Fp ops obZ).1 (Fp ops obZ).2 hp:=by
 refine Zw H.e H.f rfl ?_
 have hlen:=hR.len
 have ht:=hR.take
 have s0:=RdS.sc r0
 have s1:=hR.sc
 have s2:=r2.sc
 have sr:=hR.all
 have z1:∀v,Qd B.Qi 0 (v::v1::v2::r)=v::v1::v2::r:=fun v=>Z8 (by rw[hR.Yn,Zk])
 have d0:¬st.nx+1+1=st.nx:=by omega
 have d1:¬st.nx+1+1=st.nx+1:=by omega
 have d2:¬st.nx+1+1+1=st.nx:=by omega
 have d3:¬st.nx+1+1+1=st.nx+1:=by omega
 have d4:¬st.nx+1+1+1=st.nx+1+1:=by omega
 have d5:¬st.nx+1+1+1+1=st.nx:=by omega
 have d6:¬st.nx+1+1+1+1=st.nx+1:=by omega
 have d7:¬st.nx+1+1+1+1=st.nx+1+1:=by omega
 have d8:¬st.nx+1+1+1+1=st.nx+1+1+1:=by omega
 have xA:=((((Ext.refl hwf).Zf (o:= .cells 457 true (v0::v1::v2::r)) (Nat.lt_succ_self st.nx)).Zf (o:= .cells 457 true B.Qi) (Nat.lt_succ_self (st.nx+1))).Zf (o:= .cells 493 true (v0::v1::v2::r)) (Nat.lt_succ_self (st.nx+1+1))).Zf (o:=(.map [(.str [108,116],.fn 330 [] []),(.str [108,101],.fn 331 [] []),(.str [103,116],.fn 332 [] []),(.str [103,101],.fn 333 [] [])])) (Nat.lt_succ_self (st.nx+1+1+1))
 have xB:=xA.Zf (o:=(.map [(.str [97,110,100],.fn 335 [] []),(.str [111,114],.fn 336 [] []),(.str [120,111,114],.fn 337 [] [])])) (Nat.lt_succ_self (st.nx+1+1+1+1))
 simp (disch:=omega) [B.Qv,go_sem,hlen,ht,d0,d1,d2,d3,d4,d5,d6,d7,d8,z1,Zk,s0,s1,s2,sr,Mb,Ug,Qo,Uv]
 have y3:=xB.Zf (o:= .cells 451 false obZ.A) (Nat.lt_succ_self (st.nx+1+1+1+1+1))
 have e1:¬st.nx+1+1+1+1+1=st.nx:=by omega
 have e2:¬st.nx+1+1+1+1+1=st.nx+1:=by omega
 have e3:¬st.nx+1+1+1+1+1=st.nx+1+1:=by omega
 simp (disch:=omega) [go_sem,hlen,ht,B.zOb]
 refine(Zkp H.Uw y3.wf hR (r0.ext y3 hwf) (r2.ext y3 hwf) hb (Zil obZ _ _)).mono ?_
 rintro w q9 ⟨x9,ha⟩
 have k9:=x9.Zd
 have y9:=y3.trans x9
 have n9:=x9.nx
 try simp only at n9 k9
 have ha:=ha.toH (r2.ext y9 hwf)
 obtain⟨X,e',rfl,hX,hXs,hXt,hXz⟩:=ha.shape hR s0 s2
 have g:Zh q9.h (st.nx+1)=some (.cells 457 true B.Qi):=by
  rw[k9 _ (by omega)]
  simp (disch:=omega) [Zg,d0,d1,d2,d3,d4,d5,d6,d7,d8,e1,e2,e3]
 simp (disch:=omega) [go_sem,reI,wanted,k9,hX,hXs,hXt,hXz,Zk,d0,d1,d2,d3,d4,d5,d6,d7,d8,e1,e2,e3]
 have z:=Ext.Qw (st:=st) (h:=q9.h) (m:=q9.nx) (n:=st.nx+1) (o:= .cells 457 true X) y9 (by omega)
 exact⟨z.Zb,Kn.Zb (st:=⟨_,q9.nx⟩) (ha.Z7 g rfl) z.wf⟩
theorem Zaaf (H:B.Qq T) (hwf:st.Wf) {v0 v1 v2:AV} {r:List AV} (hR:Rest v1 r) {ops:List Ob} {hp:List Ce} (r0:RdO st.h v0 ops) (r2:HpR st.h v2 hp) (hb:ops.length<1000000) (hs:HpS hp) (hpw:Pow st) (hbr:Bru st):
  Qt (call T (.fn 308 [] []) [.agg (v0::v1::v2::r),.str [116,121,112,101]] st) fun w s=>Ext st s∧Kn s w v0 v1 v2 r (G0 ops 0 Zg4).1 (G0 ops 0 Zg4).2 hp:=by
 refine Zw H.e H.f rfl ?_
 have hlen:=hR.len
 have ht:=hR.take
 have s0:=RdS.sc r0
 have s1:=hR.sc
 have s2:=r2.sc
 have sr:=hR.all
 have z1:∀v,Qd B.Qi 0 (v::v1::v2::r)=v::v1::v2::r:=fun v=>Z8 (by rw[hR.Yn,Zk])
 have d0:¬st.nx+1+1=st.nx:=by omega
 have d1:¬st.nx+1+1=st.nx+1:=by omega
 have d2:¬st.nx+1+1+1=st.nx:=by omega
 have d3:¬st.nx+1+1+1=st.nx+1:=by omega
 have d4:¬st.nx+1+1+1=st.nx+1+1:=by omega
 have d5:¬st.nx+1+1+1+1=st.nx:=by omega
 have d6:¬st.nx+1+1+1+1=st.nx+1:=by omega
 have d7:¬st.nx+1+1+1+1=st.nx+1+1:=by omega
 have d8:¬st.nx+1+1+1+1=st.nx+1+1+1:=by omega
 have xA:=((((Ext.refl hwf).Zf (o:= .cells 457 true (v0::v1::v2::r)) (Nat.lt_succ_self st.nx)).Zf (o:= .cells 457 true B.Qi) (Nat.lt_succ_self (st.nx+1))).Zf (o:= .cells 493 true (v0::v1::v2::r)) (Nat.lt_succ_self (st.nx+1+1))).Zf (o:=(.map [(.str [108,116],.fn 330 [] []),(.str [108,101],.fn 331 [] []),(.str [103,116],.fn 332 [] []),(.str [103,101],.fn 333 [] [])])) (Nat.lt_succ_self (st.nx+1+1+1))
 have xB:=xA.Zf (o:=(.map [(.str [97,110,100],.fn 335 [] []),(.str [111,114],.fn 336 [] []),(.str [120,111,114],.fn 337 [] [])])) (Nat.lt_succ_self (st.nx+1+1+1+1))
 simp (disch:=omega) [B.Qv,go_sem,hlen,ht,d0,d1,d2,d3,d4,d5,d6,d7,d8,z1,Zk,s0,s1,s2,sr,Mb,Ug,Qo,Uv]
 refine(Ht H.Jr xB.wf hR (r0.ext xB hwf) (r2.ext xB hwf) hb (F:=Zg4) (fun s o x=>Zo2 H.Na x.wf o)).mono ?_
 rintro w q9 ⟨x9,ha⟩
 have k9:=x9.Zd
 have y9:=xB.trans x9
 have n9:=x9.nx
 try simp only at n9 k9
 have ha:=ha.toH (r2.ext y9 hwf)
 obtain⟨X,e',rfl,hX,hXs,hXt,hXz⟩:=ha.shape hR s0 s2
 have g:Zh q9.h (st.nx+1)=some (.cells 457 true B.Qi):=by
  rw[k9 _ (by omega)]
  simp (disch:=omega) [Zg,d0,d1,d2,d3,d4,d5,d6,d7,d8]
 simp (disch:=omega) [go_sem,reI,wanted,k9,hX,hXs,hXt,hXz,Zk,d0,d1,d2,d3,d4,d5,d6,d7,d8]
 have z:=Ext.Qw (st:=st) (h:=q9.h) (m:=q9.nx) (n:=st.nx+1) (o:= .cells 457 true X) y9 (by omega)
 exact⟨z.Zb,Kn.Zb (st:=⟨_,q9.nx⟩) (ha.Z7 g rfl) z.wf⟩
theorem Zvr (H:B.Qq T) (hwf:st.Wf) {v0 v1 v2:AV} {r:List AV} (hR:Rest v1 r) {ops:List Ob} {hp:List Ce} (r0:RdO st.h v0 ops) (r2:HpR st.h v2 hp) (hb:ops.length<1000000) (hs:HpS hp) (hpw:Pow st) (hbr:Bru st):
  Qt (call T (.fn 308 [] []) [.agg (v0::v1::v2::r),.str [120,99,104,101,99,107]] st) fun w s=>Ext st s∧Kn s w v0 v1 v2 r (G0 ops 0 xF).1 (G0 ops 0 xF).2 hp:=by
 refine Zw H.e H.f rfl ?_
 have hlen:=hR.len
 have ht:=hR.take
 have s0:=RdS.sc r0
 have s1:=hR.sc
 have s2:=r2.sc
 have sr:=hR.all
 have z1:∀v,Qd B.Qi 0 (v::v1::v2::r)=v::v1::v2::r:=fun v=>Z8 (by rw[hR.Yn,Zk])
 have d0:¬st.nx+1+1=st.nx:=by omega
 have d1:¬st.nx+1+1=st.nx+1:=by omega
 have d2:¬st.nx+1+1+1=st.nx:=by omega
 have d3:¬st.nx+1+1+1=st.nx+1:=by omega
 have d4:¬st.nx+1+1+1=st.nx+1+1:=by omega
 have d5:¬st.nx+1+1+1+1=st.nx:=by omega
 have d6:¬st.nx+1+1+1+1=st.nx+1:=by omega
 have d7:¬st.nx+1+1+1+1=st.nx+1+1:=by omega
 have d8:¬st.nx+1+1+1+1=st.nx+1+1+1:=by omega
 have xA:=((((Ext.refl hwf).Zf (o:= .cells 457 true (v0::v1::v2::r)) (Nat.lt_succ_self st.nx)).Zf (o:= .cells 457 true B.Qi) (Nat.lt_succ_self (st.nx+1))).Zf (o:= .cells 493 true (v0::v1::v2::r)) (Nat.lt_succ_self (st.nx+1+1))).Zf (o:=(.map [(.str [108,116],.fn 330 [] []),(.str [108,101],.fn 331 [] []),(.str [103,116],.fn 332 [] []),(.str [103,101],.fn 333 [] [])])) (Nat.lt_succ_self (st.nx+1+1+1))
 have xB:=xA.Zf (o:=(.map [(.str [97,110,100],.fn 335 [] []),(.str [111,114],.fn 336 [] []),(.str [120,111,114],.fn 337 [] [])])) (Nat.lt_succ_self (st.nx+1+1+1+1))
 simp (disch:=omega) [B.Qv,go_sem,hlen,ht,d0,d1,d2,d3,d4,d5,d6,d7,d8,z1,Zk,s0,s1,s2,sr,Mb,Ug,Qo,Uv]
 refine(Ht H.Jr xB.wf hR (r0.ext xB hwf) (r2.ext xB hwf) hb (F:=xF) (fun s o x=>Zvq H.Hs x.wf o)).mono ?_
 rintro w q9 ⟨x9,ha⟩
 have k9:=x9.Zd
 have y9:=xB.trans x9
 have n9:=x9.nx
 try simp only at n9 k9
 have ha:=ha.toH (r2.ext y9 hwf)
 obtain⟨X,e',rfl,hX,hXs,hXt,hXz⟩:=ha.shape hR s0 s2
 have g:Zh q9.h (st.nx+1)=some (.cells 457 true B.Qi):=by
  rw[k9 _ (by omega)]
  simp (disch:=omega) [Zg,d0,d1,d2,d3,d4,d5,d6,d7,d8]
 simp (disch:=omega) [go_sem,reI,wanted,k9,hX,hXs,hXt,hXz,Zk,d0,d1,d2,d3,d4,d5,d6,d7,d8]
 have z:=Ext.Qw (st:=st) (h:=q9.h) (m:=q9.nx) (n:=st.nx+1) (o:= .cells 457 true X) y9 (by omega)
 exact⟨z.Zb,Kn.Zb (st:=⟨_,q9.nx⟩) (ha.Z7 g rfl) z.wf⟩
theorem Zadu (H:B.Qq T) (hwf:st.Wf) {v0 v1 v2:AV} {r:List AV} (hR:Rest v1 r) {ops:List Ob} {hp:List Ce} (r0:RdO st.h v0 ops) (r2:HpR st.h v2 hp) (hb:ops.length<1000000) (hs:HpS hp) (hpw:Pow st) (hbr:Bru st):
  Qt (call T (.fn 308 [] []) [.agg (v0::v1::v2::r),.str [99,118,120]] st) fun w s=>Ext st s∧Kn s w v0 v1 v2 r (G0 ops 0 (T5 true)).1 (G0 ops 0 (T5 true)).2 hp:=by
 refine Zw H.e H.f rfl ?_
 have hlen:=hR.len
 have ht:=hR.take
 have s0:=RdS.sc r0
 have s1:=hR.sc
 have s2:=r2.sc
 have sr:=hR.all
 have z1:∀v,Qd B.Qi 0 (v::v1::v2::r)=v::v1::v2::r:=fun v=>Z8 (by rw[hR.Yn,Zk])
 have d0:¬st.nx+1+1=st.nx:=by omega
 have d1:¬st.nx+1+1=st.nx+1:=by omega
 have d2:¬st.nx+1+1+1=st.nx:=by omega
 have d3:¬st.nx+1+1+1=st.nx+1:=by omega
 have d4:¬st.nx+1+1+1=st.nx+1+1:=by omega
 have d5:¬st.nx+1+1+1+1=st.nx:=by omega
 have d6:¬st.nx+1+1+1+1=st.nx+1:=by omega
 have d7:¬st.nx+1+1+1+1=st.nx+1+1:=by omega
 have d8:¬st.nx+1+1+1+1=st.nx+1+1+1:=by omega
 have xA:=((((Ext.refl hwf).Zf (o:= .cells 457 true (v0::v1::v2::r)) (Nat.lt_succ_self st.nx)).Zf (o:= .cells 457 true B.Qi) (Nat.lt_succ_self (st.nx+1))).Zf (o:= .cells 493 true (v0::v1::v2::r)) (Nat.lt_succ_self (st.nx+1+1))).Zf (o:=(.map [(.str [108,116],.fn 330 [] []),(.str [108,101],.fn 331 [] []),(.str [103,116],.fn 332 [] []),(.str [103,101],.fn 333 [] [])])) (Nat.lt_succ_self (st.nx+1+1+1))
 have xB:=xA.Zf (o:=(.map [(.str [97,110,100],.fn 335 [] []),(.str [111,114],.fn 336 [] []),(.str [120,111,114],.fn 337 [] [])])) (Nat.lt_succ_self (st.nx+1+1+1+1))
 simp (disch:=omega) [B.Qv,go_sem,hlen,ht,d0,d1,d2,d3,d4,d5,d6,d7,d8,z1,Zk,s0,s1,s2,sr,Mb,Ug,Qo,Uv]
 refine(T7 H.Kl xB.wf true).mono ?_
 rintro w q2 ⟨x2,n,rfl,hn⟩
 have k2:=x2.Zd
 have y2:=xB.trans x2
 have n2:=x2.nx
 try simp only at k2 n2
 simp (disch:=omega) [go_sem]
 refine(Ht H.Jr y2.wf hR (r0.ext y2 hwf) (r2.ext y2 hwf) hb (F:=T5 true) (fun s o x=>Fh H.Kl.Kz x.wf true (x.get y2.wf hn) o)).mono ?_
 rintro w q9 ⟨x9,ha⟩
 have k9:=x9.Zd
 have y9:=y2.trans x9
 have n9:=x9.nx
 try simp only at n9 k9
 have ha:=ha.toH (r2.ext y9 hwf)
 obtain⟨X,e',rfl,hX,hXs,hXt,hXz⟩:=ha.shape hR s0 s2
 have g:Zh q9.h (st.nx+1)=some (.cells 457 true B.Qi):=by
  rw[k9 _ (by omega)]
  simp (disch:=omega) [k2,Zg,d0,d1,d2,d3,d4,d5,d6,d7,d8]
 simp (disch:=omega) [go_sem,reI,wanted,k9,k2,hX,hXs,hXt,hXz,Zk,d0,d1,d2,d3,d4,d5,d6,d7,d8]
 have z:=Ext.Qw (st:=st) (h:=q9.h) (m:=q9.nx) (n:=st.nx+1) (o:= .cells 457 true X) y9 (by omega)
 exact⟨z.Zb,Kn.Zb (st:=⟨_,q9.nx⟩) (ha.Z7 g rfl) z.wf⟩
theorem Zxv (H:B.Qq T) (hwf:st.Wf) {v0 v1 v2:AV} {r:List AV} (hR:Rest v1 r) {ops:List Ob} {hp:List Ce} (r0:RdO st.h v0 ops) (r2:HpR st.h v2 hp) (hb:ops.length<1000000) (hs:HpS hp) (hpw:Pow st) (hbr:Bru st):
  Qt (call T (.fn 308 [] []) [.agg (v0::v1::v2::r),.str [99,118,108,105,116]] st) fun w s=>Ext st s∧Kn s w v0 v1 v2 r (G0 ops 0 (T5 false)).1 (G0 ops 0 (T5 false)).2 hp:=by
 refine Zw H.e H.f rfl ?_
 have hlen:=hR.len
 have ht:=hR.take
 have s0:=RdS.sc r0
 have s1:=hR.sc
 have s2:=r2.sc
 have sr:=hR.all
 have z1:∀v,Qd B.Qi 0 (v::v1::v2::r)=v::v1::v2::r:=fun v=>Z8 (by rw[hR.Yn,Zk])
 have d0:¬st.nx+1+1=st.nx:=by omega
 have d1:¬st.nx+1+1=st.nx+1:=by omega
 have d2:¬st.nx+1+1+1=st.nx:=by omega
 have d3:¬st.nx+1+1+1=st.nx+1:=by omega
 have d4:¬st.nx+1+1+1=st.nx+1+1:=by omega
 have d5:¬st.nx+1+1+1+1=st.nx:=by omega
 have d6:¬st.nx+1+1+1+1=st.nx+1:=by omega
 have d7:¬st.nx+1+1+1+1=st.nx+1+1:=by omega
 have d8:¬st.nx+1+1+1+1=st.nx+1+1+1:=by omega
 have xA:=((((Ext.refl hwf).Zf (o:= .cells 457 true (v0::v1::v2::r)) (Nat.lt_succ_self st.nx)).Zf (o:= .cells 457 true B.Qi) (Nat.lt_succ_self (st.nx+1))).Zf (o:= .cells 493 true (v0::v1::v2::r)) (Nat.lt_succ_self (st.nx+1+1))).Zf (o:=(.map [(.str [108,116],.fn 330 [] []),(.str [108,101],.fn 331 [] []),(.str [103,116],.fn 332 [] []),(.str [103,101],.fn 333 [] [])])) (Nat.lt_succ_self (st.nx+1+1+1))
 have xB:=xA.Zf (o:=(.map [(.str [97,110,100],.fn 335 [] []),(.str [111,114],.fn 336 [] []),(.str [120,111,114],.fn 337 [] [])])) (Nat.lt_succ_self (st.nx+1+1+1+1))
 simp (disch:=omega) [B.Qv,go_sem,hlen,ht,d0,d1,d2,d3,d4,d5,d6,d7,d8,z1,Zk,s0,s1,s2,sr,Mb,Ug,Qo,Uv]
 refine(T7 H.Kl xB.wf false).mono ?_
 rintro w q2 ⟨x2,n,rfl,hn⟩
 have k2:=x2.Zd
 have y2:=xB.trans x2
 have n2:=x2.nx
 try simp only at k2 n2
 simp (disch:=omega) [go_sem]
 refine(Ht H.Jr y2.wf hR (r0.ext y2 hwf) (r2.ext y2 hwf) hb (F:=T5 false) (fun s o x=>Fh H.Kl.Kz x.wf false (x.get y2.wf hn) o)).mono ?_
 rintro w q9 ⟨x9,ha⟩
 have k9:=x9.Zd
 have y9:=y2.trans x9
 have n9:=x9.nx
 try simp only at n9 k9
 have ha:=ha.toH (r2.ext y9 hwf)
 obtain⟨X,e',rfl,hX,hXs,hXt,hXz⟩:=ha.shape hR s0 s2
 have g:Zh q9.h (st.nx+1)=some (.cells 457 true B.Qi):=by
  rw[k9 _ (by omega)]
  simp (disch:=omega) [k2,Zg,d0,d1,d2,d3,d4,d5,d6,d7,d8]
 simp (disch:=omega) [go_sem,reI,wanted,k9,k2,hX,hXs,hXt,hXz,Zk,d0,d1,d2,d3,d4,d5,d6,d7,d8]
 have z:=Ext.Qw (st:=st) (h:=q9.h) (m:=q9.nx) (n:=st.nx+1) (o:= .cells 457 true X) y9 (by omega)
 exact⟨z.Zb,Kn.Zb (st:=⟨_,q9.nx⟩) (ha.Z7 g rfl) z.wf⟩
theorem Zadr (H:B.Qq T) (hwf:st.Wf) {v0 v1 v2:AV} {r:List AV} (hR:Rest v1 r) {ops:List Ob} {hp:List Ce} (r0:RdO st.h v0 ops) (r2:HpR st.h v2 hp) (hb:ops.length<1000000) (hs:HpS hp) (hpw:Pow st) (hbr:Bru st):
  Qt (call T (.fn 308 [] []) [.agg (v0::v1::v2::r),.str [99,118,110]] st) fun w s=>Ext st s∧Kn s w v0 v1 v2 r (G0 ops 2 (Zki hp)).1 (G0 ops 2 (Zki hp)).2 hp:=by
 refine Zw H.e H.f rfl ?_
 have hlen:=hR.len
 have ht:=hR.take
 have s0:=RdS.sc r0
 have s1:=hR.sc
 have s2:=r2.sc
 have sr:=hR.all
 have z1:∀v,Qd B.Qi 0 (v::v1::v2::r)=v::v1::v2::r:=fun v=>Z8 (by rw[hR.Yn,Zk])
 have d0:¬st.nx+1+1=st.nx:=by omega
 have d1:¬st.nx+1+1=st.nx+1:=by omega
 have d2:¬st.nx+1+1+1=st.nx:=by omega
 have d3:¬st.nx+1+1+1=st.nx+1:=by omega
 have d4:¬st.nx+1+1+1=st.nx+1+1:=by omega
 have d5:¬st.nx+1+1+1+1=st.nx:=by omega
 have d6:¬st.nx+1+1+1+1=st.nx+1:=by omega
 have d7:¬st.nx+1+1+1+1=st.nx+1+1:=by omega
 have d8:¬st.nx+1+1+1+1=st.nx+1+1+1:=by omega
 have xA:=((((Ext.refl hwf).Zf (o:= .cells 457 true (v0::v1::v2::r)) (Nat.lt_succ_self st.nx)).Zf (o:= .cells 457 true B.Qi) (Nat.lt_succ_self (st.nx+1))).Zf (o:= .cells 493 true (v0::v1::v2::r)) (Nat.lt_succ_self (st.nx+1+1))).Zf (o:=(.map [(.str [108,116],.fn 330 [] []),(.str [108,101],.fn 331 [] []),(.str [103,116],.fn 332 [] []),(.str [103,101],.fn 333 [] [])])) (Nat.lt_succ_self (st.nx+1+1+1))
 have xB:=xA.Zf (o:=(.map [(.str [97,110,100],.fn 335 [] []),(.str [111,114],.fn 336 [] []),(.str [120,111,114],.fn 337 [] [])])) (Nat.lt_succ_self (st.nx+1+1+1+1))
 simp (disch:=omega) [B.Qv,go_sem,hlen,ht,d0,d1,d2,d3,d4,d5,d6,d7,d8,z1,Zk,s0,s1,s2,sr,Mb,Ug,Qo,Uv]
 refine(Ht H.Jr xB.wf hR (r0.ext xB hwf) (r2.ext xB hwf) hb (F:=Zki hp) (fun s o x=>Zf3 H.Vu x.wf hR ((r2.ext xB hwf).ext x xB.wf) o)).mono ?_
 rintro w q9 ⟨x9,ha⟩
 have k9:=x9.Zd
 have y9:=xB.trans x9
 have n9:=x9.nx
 try simp only at n9 k9
 have ha:=ha.toH (r2.ext y9 hwf)
 obtain⟨X,e',rfl,hX,hXs,hXt,hXz⟩:=ha.shape hR s0 s2
 have g:Zh q9.h (st.nx+1)=some (.cells 457 true B.Qi):=by
  rw[k9 _ (by omega)]
  simp (disch:=omega) [Zg,d0,d1,d2,d3,d4,d5,d6,d7,d8]
 simp (disch:=omega) [go_sem,reI,wanted,k9,hX,hXs,hXt,hXz,Zk,d0,d1,d2,d3,d4,d5,d6,d7,d8]
 have z:=Ext.Qw (st:=st) (h:=q9.h) (m:=q9.nx) (n:=st.nx+1) (o:= .cells 457 true X) y9 (by omega)
 exact⟨z.Zb,Kn.Zb (st:=⟨_,q9.nx⟩) (ha.Z7 g rfl) z.wf⟩
theorem Zadq (H:B.Qq T) (hwf:st.Wf) {v0 v1 v2:AV} {r:List AV} (hR:Rest v1 r) {ops:List Ob} {hp:List Ce} (r0:RdO st.h v0 ops) (r2:HpR st.h v2 hp) (hb:ops.length<1000000) (hs:HpS hp) (hpw:Pow st) (hbr:Bru st):
  Qt (call T (.fn 308 [] []) [.agg (v0::v1::v2::r),.str [99,118,105]] st) fun w s=>Ext st s∧Kn s w v0 v1 v2 r (G0 ops 5 (Tx hp Ns)).1 (G0 ops 5 (Tx hp Ns)).2 hp:=by
 refine Zw H.e H.f rfl ?_
 have hlen:=hR.len
 have ht:=hR.take
 have s0:=RdS.sc r0
 have s1:=hR.sc
 have s2:=r2.sc
 have sr:=hR.all
 have z1:∀v,Qd B.Qi 0 (v::v1::v2::r)=v::v1::v2::r:=fun v=>Z8 (by rw[hR.Yn,Zk])
 have d0:¬st.nx+1+1=st.nx:=by omega
 have d1:¬st.nx+1+1=st.nx+1:=by omega
 have d2:¬st.nx+1+1+1=st.nx:=by omega
 have d3:¬st.nx+1+1+1=st.nx+1:=by omega
 have d4:¬st.nx+1+1+1=st.nx+1+1:=by omega
 have d5:¬st.nx+1+1+1+1=st.nx:=by omega
 have d6:¬st.nx+1+1+1+1=st.nx+1:=by omega
 have d7:¬st.nx+1+1+1+1=st.nx+1+1:=by omega
 have d8:¬st.nx+1+1+1+1=st.nx+1+1+1:=by omega
 have xA:=((((Ext.refl hwf).Zf (o:= .cells 457 true (v0::v1::v2::r)) (Nat.lt_succ_self st.nx)).Zf (o:= .cells 457 true B.Qi) (Nat.lt_succ_self (st.nx+1))).Zf (o:= .cells 493 true (v0::v1::v2::r)) (Nat.lt_succ_self (st.nx+1+1))).Zf (o:=(.map [(.str [108,116],.fn 330 [] []),(.str [108,101],.fn 331 [] []),(.str [103,116],.fn 332 [] []),(.str [103,101],.fn 333 [] [])])) (Nat.lt_succ_self (st.nx+1+1+1))
 have xB:=xA.Zf (o:=(.map [(.str [97,110,100],.fn 335 [] []),(.str [111,114],.fn 336 [] []),(.str [120,111,114],.fn 337 [] [])])) (Nat.lt_succ_self (st.nx+1+1+1+1))
 simp (disch:=omega) [B.Qv,go_sem,hlen,ht,d0,d1,d2,d3,d4,d5,d6,d7,d8,z1,Zk,s0,s1,s2,sr,Mb,Ug,Qo,Uv]
 refine(Zbt H.Q0 xB.wf hR s0 s2 350).mono ?_
 rintro w q2 ⟨x2,n,m,rfl,hn,hm⟩
 have k2:=x2.Zd
 have y2:=xB.trans x2
 have n2:=x2.nx
 try simp only at k2 n2
 simp (disch:=omega) [go_sem]
 refine(Ht H.Jr y2.wf hR (r0.ext y2 hwf) (r2.ext y2 hwf) hb (F:=Tx hp Ns) (fun s o x=>Im H.Q0.Jh x.wf hR hs ((r2.ext y2 hwf).ext x y2.wf) (fun s o hw=>Zm8 H.Wm hw o) (x.get y2.wf hn) (x.get y2.wf hm) o)).mono ?_
 rintro w q9 ⟨x9,ha⟩
 have k9:=x9.Zd
 have y9:=y2.trans x9
 have n9:=x9.nx
 try simp only at n9 k9
 have ha:=ha.toH (r2.ext y9 hwf)
 obtain⟨X,e',rfl,hX,hXs,hXt,hXz⟩:=ha.shape hR s0 s2
 have g:Zh q9.h (st.nx+1)=some (.cells 457 true B.Qi):=by
  rw[k9 _ (by omega)]
  simp (disch:=omega) [k2,Zg,d0,d1,d2,d3,d4,d5,d6,d7,d8]
 simp (disch:=omega) [go_sem,reI,wanted,k9,k2,hX,hXs,hXt,hXz,Zk,d0,d1,d2,d3,d4,d5,d6,d7,d8]
 have z:=Ext.Qw (st:=st) (h:=q9.h) (m:=q9.nx) (n:=st.nx+1) (o:= .cells 457 true X) y9 (by omega)
 exact⟨z.Zb,Kn.Zb (st:=⟨_,q9.nx⟩) (ha.Z7 g rfl) z.wf⟩
theorem Zads (H:B.Qq T) (hwf:st.Wf) {v0 v1 v2:AV} {r:List AV} (hR:Rest v1 r) {ops:List Ob} {hp:List Ce} (r0:RdO st.h v0 ops) (r2:HpR st.h v2 hp) (hb:ops.length<1000000) (hs:HpS hp) (hpw:Pow st) (hbr:Bru st):
  Qt (call T (.fn 308 [] []) [.agg (v0::v1::v2::r),.str [99,118,114]] st) fun w s=>Ext st s∧Kn s w v0 v1 v2 r (G0 ops 5 (Tx hp G6)).1 (G0 ops 5 (Tx hp G6)).2 hp:=by
 refine Zw H.e H.f rfl ?_
 have hlen:=hR.len
 have ht:=hR.take
 have s0:=RdS.sc r0
 have s1:=hR.sc
 have s2:=r2.sc
 have sr:=hR.all
 have z1:∀v,Qd B.Qi 0 (v::v1::v2::r)=v::v1::v2::r:=fun v=>Z8 (by rw[hR.Yn,Zk])
 have d0:¬st.nx+1+1=st.nx:=by omega
 have d1:¬st.nx+1+1=st.nx+1:=by omega
 have d2:¬st.nx+1+1+1=st.nx:=by omega
 have d3:¬st.nx+1+1+1=st.nx+1:=by omega
 have d4:¬st.nx+1+1+1=st.nx+1+1:=by omega
 have d5:¬st.nx+1+1+1+1=st.nx:=by omega
 have d6:¬st.nx+1+1+1+1=st.nx+1:=by omega
 have d7:¬st.nx+1+1+1+1=st.nx+1+1:=by omega
 have d8:¬st.nx+1+1+1+1=st.nx+1+1+1:=by omega
 have xA:=((((Ext.refl hwf).Zf (o:= .cells 457 true (v0::v1::v2::r)) (Nat.lt_succ_self st.nx)).Zf (o:= .cells 457 true B.Qi) (Nat.lt_succ_self (st.nx+1))).Zf (o:= .cells 493 true (v0::v1::v2::r)) (Nat.lt_succ_self (st.nx+1+1))).Zf (o:=(.map [(.str [108,116],.fn 330 [] []),(.str [108,101],.fn 331 [] []),(.str [103,116],.fn 332 [] []),(.str [103,101],.fn 333 [] [])])) (Nat.lt_succ_self (st.nx+1+1+1))
 have xB:=xA.Zf (o:=(.map [(.str [97,110,100],.fn 335 [] []),(.str [111,114],.fn 336 [] []),(.str [120,111,114],.fn 337 [] [])])) (Nat.lt_succ_self (st.nx+1+1+1+1))
 simp (disch:=omega) [B.Qv,go_sem,hlen,ht,d0,d1,d2,d3,d4,d5,d6,d7,d8,z1,Zk,s0,s1,s2,sr,Mb,Ug,Qo,Uv]
 refine(Zbt H.Q0 xB.wf hR s0 s2 351).mono ?_
 rintro w q2 ⟨x2,n,m,rfl,hn,hm⟩
 have k2:=x2.Zd
 have y2:=xB.trans x2
 have n2:=x2.nx
 try simp only at k2 n2
 simp (disch:=omega) [go_sem]
 refine(Ht H.Jr y2.wf hR (r0.ext y2 hwf) (r2.ext y2 hwf) hb (F:=Tx hp G6) (fun s o x=>Im H.Q0.Jh x.wf hR hs ((r2.ext y2 hwf).ext x y2.wf) (fun s o hw=>Zuf H.Li hw o) (x.get y2.wf hn) (x.get y2.wf hm) o)).mono ?_
 rintro w q9 ⟨x9,ha⟩
 have k9:=x9.Zd
 have y9:=y2.trans x9
 have n9:=x9.nx
 try simp only at n9 k9
 have ha:=ha.toH (r2.ext y9 hwf)
 obtain⟨X,e',rfl,hX,hXs,hXt,hXz⟩:=ha.shape hR s0 s2
 have g:Zh q9.h (st.nx+1)=some (.cells 457 true B.Qi):=by
  rw[k9 _ (by omega)]
  simp (disch:=omega) [k2,Zg,d0,d1,d2,d3,d4,d5,d6,d7,d8]
 simp (disch:=omega) [go_sem,reI,wanted,k9,k2,hX,hXs,hXt,hXz,Zk,d0,d1,d2,d3,d4,d5,d6,d7,d8]
 have z:=Ext.Qw (st:=st) (h:=q9.h) (m:=q9.nx) (n:=st.nx+1) (o:= .cells 457 true X) y9 (by omega)
 exact⟨z.Zb,Kn.Zb (st:=⟨_,q9.nx⟩) (ha.Z7 g rfl) z.wf⟩
theorem Zadt (H:B.Qq T) (hwf:st.Wf) {v0 v1 v2:AV} {r:List AV} (hR:Rest v1 r) {ops:List Ob} {hp:List Ce} (r0:RdO st.h v0 ops) (r2:HpR st.h v2 hp) (hb:ops.length<1000000) (hs:HpS hp) (hpw:Pow st) (hbr:Bru st):
  Qt (call T (.fn 308 [] []) [.agg (v0::v1::v2::r),.str [99,118,115]] st) fun w s=>Ext st s∧Kn s w v0 v1 v2 r (Zi4 ops hp).1 (Zi4 ops hp).2.1 (Zi4 ops hp).2.2:=by
 refine Zw H.e H.f rfl ?_
 have hlen:=hR.len
 have ht:=hR.take
 have s0:=RdS.sc r0
 have s1:=hR.sc
 have s2:=r2.sc
 have sr:=hR.all
 have z1:∀v,Qd B.Qi 0 (v::v1::v2::r)=v::v1::v2::r:=fun v=>Z8 (by rw[hR.Yn,Zk])
 have d0:¬st.nx+1+1=st.nx:=by omega
 have d1:¬st.nx+1+1=st.nx+1:=by omega
 have d2:¬st.nx+1+1+1=st.nx:=by omega
 have d3:¬st.nx+1+1+1=st.nx+1:=by omega
 have d4:¬st.nx+1+1+1=st.nx+1+1:=by omega
 have d5:¬st.nx+1+1+1+1=st.nx:=by omega
 have d6:¬st.nx+1+1+1+1=st.nx+1:=by omega
 have d7:¬st.nx+1+1+1+1=st.nx+1+1:=by omega
 have d8:¬st.nx+1+1+1+1=st.nx+1+1+1:=by omega
 have xA:=((((Ext.refl hwf).Zf (o:= .cells 457 true (v0::v1::v2::r)) (Nat.lt_succ_self st.nx)).Zf (o:= .cells 457 true B.Qi) (Nat.lt_succ_self (st.nx+1))).Zf (o:= .cells 493 true (v0::v1::v2::r)) (Nat.lt_succ_self (st.nx+1+1))).Zf (o:=(.map [(.str [108,116],.fn 330 [] []),(.str [108,101],.fn 331 [] []),(.str [103,116],.fn 332 [] []),(.str [103,101],.fn 333 [] [])])) (Nat.lt_succ_self (st.nx+1+1+1))
 have xB:=xA.Zf (o:=(.map [(.str [97,110,100],.fn 335 [] []),(.str [111,114],.fn 336 [] []),(.str [120,111,114],.fn 337 [] [])])) (Nat.lt_succ_self (st.nx+1+1+1+1))
 simp (disch:=omega) [B.Qv,go_sem,hlen,ht,d0,d1,d2,d3,d4,d5,d6,d7,d8,z1,Zk,s0,s1,s2,sr,Mb,Ug,Qo,Uv]
 refine(Zaaa H.U9 xB.wf hR (r0.ext xB hwf) (r2.ext xB hwf) hb hs (hpw.ext xB hwf) (hbr.ext xB hwf)).mono ?_
 rintro w q9 ⟨x9,ha⟩
 have k9:=x9.Zd
 have y9:=xB.trans x9
 have n9:=x9.nx
 try simp only at n9 k9
 obtain⟨X,e',rfl,hX,hXs,hXt,hXz⟩:=ha.shape hR s0 s2
 have g:Zh q9.h (st.nx+1)=some (.cells 457 true B.Qi):=by
  rw[k9 _ (by omega)]
  simp (disch:=omega) [Zg,d0,d1,d2,d3,d4,d5,d6,d7,d8]
 simp (disch:=omega) [go_sem,reI,wanted,k9,hX,hXs,hXt,hXz,Zk,d0,d1,d2,d3,d4,d5,d6,d7,d8]
 have z:=Ext.Qw (st:=st) (h:=q9.h) (m:=q9.nx) (n:=st.nx+1) (o:= .cells 457 true X) y9 (by omega)
 exact⟨z.Zb,Kn.Zb (st:=⟨_,q9.nx⟩) (ha.Z7 g rfl) z.wf⟩
theorem Zaac (H:B.Qq T) (hwf:st.Wf) {v0 v1 v2:AV} {r:List AV} (hR:Rest v1 r) {ops:List Ob} {hp:List Ce} (r0:RdO st.h v0 ops) (r2:HpR st.h v2 hp) (hb:ops.length<1000000) (hs:HpS hp) (hpw:Pow st) (hbr:Bru st):
  Qt (call T (.fn 308 [] []) [.agg (v0::v1::v2::r),.str [99,118,114,115]] st) fun w s=>Ext st s∧Kn s w v0 v1 v2 r (C9 ops hp).1 (C9 ops hp).2.1 (C9 ops hp).2.2:=by
 refine Zw H.e H.f rfl ?_
 have hlen:=hR.len
 have ht:=hR.take
 have s0:=RdS.sc r0
 have s1:=hR.sc
 have s2:=r2.sc
 have sr:=hR.all
 have z1:∀v,Qd B.Qi 0 (v::v1::v2::r)=v::v1::v2::r:=fun v=>Z8 (by rw[hR.Yn,Zk])
 have d0:¬st.nx+1+1=st.nx:=by omega
 have d1:¬st.nx+1+1=st.nx+1:=by omega
 have d2:¬st.nx+1+1+1=st.nx:=by omega
 have d3:¬st.nx+1+1+1=st.nx+1:=by omega
 have d4:¬st.nx+1+1+1=st.nx+1+1:=by omega
 have d5:¬st.nx+1+1+1+1=st.nx:=by omega
 have d6:¬st.nx+1+1+1+1=st.nx+1:=by omega
 have d7:¬st.nx+1+1+1+1=st.nx+1+1:=by omega
 have d8:¬st.nx+1+1+1+1=st.nx+1+1+1:=by omega
 have xA:=((((Ext.refl hwf).Zf (o:= .cells 457 true (v0::v1::v2::r)) (Nat.lt_succ_self st.nx)).Zf (o:= .cells 457 true B.Qi) (Nat.lt_succ_self (st.nx+1))).Zf (o:= .cells 493 true (v0::v1::v2::r)) (Nat.lt_succ_self (st.nx+1+1))).Zf (o:=(.map [(.str [108,116],.fn 330 [] []),(.str [108,101],.fn 331 [] []),(.str [103,116],.fn 332 [] []),(.str [103,101],.fn 333 [] [])])) (Nat.lt_succ_self (st.nx+1+1+1))
 have xB:=xA.Zf (o:=(.map [(.str [97,110,100],.fn 335 [] []),(.str [111,114],.fn 336 [] []),(.str [120,111,114],.fn 337 [] [])])) (Nat.lt_succ_self (st.nx+1+1+1+1))
 simp (disch:=omega) [B.Qv,go_sem,hlen,ht,d0,d1,d2,d3,d4,d5,d6,d7,d8,z1,Zk,s0,s1,s2,sr,Mb,Ug,Qo,Uv]
 refine(Zxt H.Ul xB.wf hR (r0.ext xB hwf) (r2.ext xB hwf) hb hs (hpw.ext xB hwf) (hbr.ext xB hwf)).mono ?_
 rintro w q9 ⟨x9,ha⟩
 have k9:=x9.Zd
 have y9:=xB.trans x9
 have n9:=x9.nx
 try simp only at n9 k9
 obtain⟨X,e',rfl,hX,hXs,hXt,hXz⟩:=ha.shape hR s0 s2
 have g:Zh q9.h (st.nx+1)=some (.cells 457 true B.Qi):=by
  rw[k9 _ (by omega)]
  simp (disch:=omega) [Zg,d0,d1,d2,d3,d4,d5,d6,d7,d8]
 simp (disch:=omega) [go_sem,reI,wanted,k9,hX,hXs,hXt,hXz,Zk,d0,d1,d2,d3,d4,d5,d6,d7,d8]
 have z:=Ext.Qw (st:=st) (h:=q9.h) (m:=q9.nx) (n:=st.nx+1) (o:= .cells 457 true X) y9 (by omega)
 exact⟨z.Zb,Kn.Zb (st:=⟨_,q9.nx⟩) (ha.Z7 g rfl) z.wf⟩
theorem Znv (H:B.Qq T) (hwf:st.Wf) {v0 v1 v2:AV} {r:List AV} (hR:Rest v1 r) {ops:List Ob} {hp:List Ce} (r0:RdO st.h v0 ops) (r2:HpR st.h v2 hp) (hb:ops.length<1000000) (hs:HpS hp) (hpw:Pow st) (hbr:Bru st) (op:List UInt8):
  Qt (call T (.fn 308 [] []) [.agg (v0::v1::v2::r),.str op] st) fun w s=>Ext st s∧Kn s w v0 v1 v2 r (doR ops hp op).1 (doR ops hp op).2.1 (doR ops hp op).2.2:=by
 by_cases h_lt:op=[108,116]
 ·rw[show doR ops hp op=doR ops hp [108,116]by rw[h_lt],h_lt]
  exact Zagn H hwf hR r0 r2 hb hs hpw hbr
 by_cases h_le:op=[108,101]
 ·rw[show doR ops hp op=doR ops hp [108,101]by rw[h_le],h_le]
  exact Zagm H hwf hR r0 r2 hb hs hpw hbr
 by_cases h_gt:op=[103,116]
 ·rw[show doR ops hp op=doR ops hp [103,116]by rw[h_gt],h_gt]
  exact Zagl H hwf hR r0 r2 hb hs hpw hbr
 by_cases h_ge:op=[103,101]
 ·rw[show doR ops hp op=doR ops hp [103,101]by rw[h_ge],h_ge]
  exact Zagk H hwf hR r0 r2 hb hs hpw hbr
 by_cases h_and:op=[97,110,100]
 ·rw[show doR ops hp op=doR ops hp [97,110,100]by rw[h_and],h_and]
  exact Zadp H hwf hR r0 r2 hb hs hpw hbr
 by_cases h_or:op=[111,114]
 ·rw[show doR ops hp op=doR ops hp [111,114]by rw[h_or],h_or]
  exact Zagp H hwf hR r0 r2 hb hs hpw hbr
 by_cases h_xor:op=[120,111,114]
 ·rw[show doR ops hp op=doR ops hp [120,111,114]by rw[h_xor],h_xor]
  exact Zadw H hwf hR r0 r2 hb hs hpw hbr
 by_cases h_eq:op=[101,113]
 ·rw[show doR ops hp op=doR ops hp [101,113]by rw[h_eq],h_eq]
  exact Zagj H hwf hR r0 r2 hb hs hpw hbr
 by_cases h_ne:op=[110,101]
 ·rw[show doR ops hp op=doR ops hp [110,101]by rw[h_ne],h_ne]
  exact Zago H hwf hR r0 r2 hb hs hpw hbr
 by_cases h_not:op=[110,111,116]
 ·rw[show doR ops hp op=doR ops hp [110,111,116]by rw[h_not],h_not]
  exact Zadv H hwf hR r0 r2 hb hs hpw hbr
 by_cases h_bitshift:op=[98,105,116,115,104,105,102,116]
 ·rw[show doR ops hp op=doR ops hp [98,105,116,115,104,105,102,116]by rw[h_bitshift],h_bitshift]
  exact Zqi H hwf hR r0 r2 hb hs hpw hbr
 by_cases h_true:op=[116,114,117,101]
 ·rw[show doR ops hp op=doR ops hp [116,114,117,101]by rw[h_true],h_true]
  exact Zaae H hwf hR r0 r2 hb hs hpw hbr
 by_cases h_false:op=[102,97,108,115,101]
 ·rw[show doR ops hp op=doR ops hp [102,97,108,115,101]by rw[h_false],h_false]
  exact Zxw H hwf hR r0 r2 hb hs hpw hbr
 by_cases h_null:op=[110,117,108,108]
 ·rw[show doR ops hp op=doR ops hp [110,117,108,108]by rw[h_null],h_null]
  exact Zaad H hwf hR r0 r2 hb hs hpw hbr
 by_cases h_type:op=[116,121,112,101]
 ·rw[show doR ops hp op=doR ops hp [116,121,112,101]by rw[h_type],h_type]
  exact Zaaf H hwf hR r0 r2 hb hs hpw hbr
 by_cases h_xcheck:op=[120,99,104,101,99,107]
 ·rw[show doR ops hp op=doR ops hp [120,99,104,101,99,107]by rw[h_xcheck],h_xcheck]
  exact Zvr H hwf hR r0 r2 hb hs hpw hbr
 by_cases h_cvx:op=[99,118,120]
 ·rw[show doR ops hp op=doR ops hp [99,118,120]by rw[h_cvx],h_cvx]
  exact Zadu H hwf hR r0 r2 hb hs hpw hbr
 by_cases h_cvlit:op=[99,118,108,105,116]
 ·rw[show doR ops hp op=doR ops hp [99,118,108,105,116]by rw[h_cvlit],h_cvlit]
  exact Zxv H hwf hR r0 r2 hb hs hpw hbr
 by_cases h_cvn:op=[99,118,110]
 ·rw[show doR ops hp op=doR ops hp [99,118,110]by rw[h_cvn],h_cvn]
  exact Zadr H hwf hR r0 r2 hb hs hpw hbr
 by_cases h_cvi:op=[99,118,105]
 ·rw[show doR ops hp op=doR ops hp [99,118,105]by rw[h_cvi],h_cvi]
  exact Zadq H hwf hR r0 r2 hb hs hpw hbr
 by_cases h_cvr:op=[99,118,114]
 ·rw[show doR ops hp op=doR ops hp [99,118,114]by rw[h_cvr],h_cvr]
  exact Zads H hwf hR r0 r2 hb hs hpw hbr
 by_cases h_cvs:op=[99,118,115]
 ·rw[show doR ops hp op=doR ops hp [99,118,115]by rw[h_cvs],h_cvs]
  exact Zadt H hwf hR r0 r2 hb hs hpw hbr
 by_cases h_cvrs:op=[99,118,114,115]
 ·rw[show doR ops hp op=doR ops hp [99,118,114,115]by rw[h_cvrs],h_cvrs]
  exact Zaac H hwf hR r0 r2 hb hs hpw hbr
 have e:doR ops hp op=(24,[],[]):=by
  unfold doR
  simp only[if_neg h_lt,if_neg h_le,if_neg h_gt,if_neg h_ge,if_neg h_and,if_neg h_or,if_neg h_xor,if_neg h_eq,if_neg h_ne,if_neg h_not,if_neg h_bitshift,if_neg h_true,if_neg h_false,if_neg h_null,if_neg h_type,if_neg h_xcheck,if_neg h_cvx,if_neg h_cvlit,if_neg h_cvn,if_neg h_cvi,if_neg h_cvr,if_neg h_cvs,if_neg h_cvrs]
 rw[e]
 refine Zw H.e H.f rfl ?_
 have hlen:=hR.len
 have ht:=hR.take
 have s0:=RdS.sc r0
 have s1:=hR.sc
 have s2:=r2.sc
 have sr:=hR.all
 have z1:∀v,Qd B.Qi 0 (v::v1::v2::r)=v::v1::v2::r:=fun v=>Z8 (by rw[hR.Yn,Zk])
 have d0:¬st.nx+1+1=st.nx:=by omega
 have d1:¬st.nx+1+1=st.nx+1:=by omega
 have d2:¬st.nx+1+1+1=st.nx:=by omega
 have d3:¬st.nx+1+1+1=st.nx+1:=by omega
 have d4:¬st.nx+1+1+1=st.nx+1+1:=by omega
 have d5:¬st.nx+1+1+1+1=st.nx:=by omega
 have d6:¬st.nx+1+1+1+1=st.nx+1:=by omega
 have d7:¬st.nx+1+1+1+1=st.nx+1+1:=by omega
 have d8:¬st.nx+1+1+1+1=st.nx+1+1+1:=by omega
 simp (disch:=omega) [B.Qv,go_sem,hlen,ht,d0,d1,d2,d3,d4,d5,d6,d7,d8,z1,Zk,s0,s1,s2,sr,Mb,Ug,Qo,Br,h_lt,h_le,h_gt,h_ge,h_and,h_or,h_xor,h_eq,h_ne,h_not,h_bitshift,h_true,h_false,h_null,h_type,h_xcheck,h_cvx,h_cvlit,h_cvn,h_cvi,h_cvr,h_cvs,h_cvrs]
 have z:∀a b c d e,Ext st ⟨(st.nx+1+1+1+1,e)::(st.nx+1+1+1,d)::(st.nx+1+1,c)::(st.nx+1,b)::(st.nx,a)::st.h,st.nx+1+1+1+1+1⟩:=fun a b c d e=>
  (((((Ext.refl hwf).Zf (Nat.lt_succ_self _)).Zf (Nat.lt_succ_self _)).Zf (Nat.lt_succ_self _)).Zf (Nat.lt_succ_self _)).Zf (Nat.lt_succ_self _)
 exact⟨(z _ _ _ _ _).Zb,.inl ⟨by decide,rfl⟩⟩
end Go.Ev

/- The law's own helpers told: one, gives. -/
namespace Go.Ev
open Go
variable {T : Tab} {st st' : St}
def Oh:List AV:=B.Qi.drop 3
theorem Q1:Rest .Zc Oh:=⟨rfl,rfl,rfl⟩
theorem Zin (v w:AV):(B.Qi.set 0 v).set 2 w=v:: .Zc::w::Oh:=rfl
def Ie (hp:List Ce) (ops:List Ob) (op:List UInt8):Ob×Bool:=
 if(doR ops hp op).1=0∧(doR ops hp op).2.1.length=1 then((doR ops hp op).2.1.getD 0 obZ,true)else(obZ,false)
theorem R0 (H:B.Hd T) (hwf:st.Wf) {vh vl:AV} {ops:List Ob} {hp:List Ce} (r0:RdO st.h vl ops) (r2:HpR st.h vh hp) (hb:ops.length<1000000) (hs:HpS hp) (hpw:Pow st) (hbr:Bru st) (op:List UInt8):
  Z9 T st (.fn 303 [] []) [vh,.str op,vl] (.tuple [(Ie hp ops op).1.v,.bool (Ie hp ops op).2]):=by
 refine Zm H.e H.f rfl ?_
 have s0:=RdS.sc r0
 have s2:=r2.sc
 have x0:=(Ext.refl hwf).Zf (o:= .cells 451 true B.zOb) (Nat.lt_succ_self st.nx)
 have key:∀K:AV→St→Prop,(∀w s,(Ext ⟨(st.nx,.cells 451 true B.zOb)::st.h,st.nx+1⟩ s∧Kn s w vl .Zc vh Oh (doR ops hp op).1 (doR ops hp op).2.1 (doR ops hp op).2.2)→K w s)→Qt (call T (.fn 308 [] []) [.agg (vl:: .Zc::vh::Oh),.str op] ⟨(st.nx,.cells 451 true B.zOb)::st.h,st.nx+1⟩) K:=
  fun K hK=>(Znv H.Qv x0.wf Q1 (r0.ext x0 hwf) (r2.ext x0 hwf) hb hs (hpw.ext x0 hwf) (hbr.ext x0 hwf) op).mono hK
 have fin:∀w s,(Ext ⟨(st.nx,.cells 451 true B.zOb)::st.h,st.nx+1⟩ s∧Kn s w vl .Zc vh Oh (doR ops hp op).1 (doR ops hp op).2.1 (doR ops hp op).2.2)→True:=fun _ _ _=>trivial
 rcases r0.form hwf with ⟨e0,e0'⟩ | ⟨n0,off0,cp0,ob0,e0,_⟩ <;> rcases r2.form hwf with ⟨e2,e2'⟩ | ⟨n2,off2,cp2,ob2,e2,_⟩
 all_goals
  rw[e0,e2]at key
  simp (disch:=omega) [B.Kb,go_sem,Zk,Zin,e0,e2]
  refine key _ ?_
  rintro w s1 ⟨x1,ha⟩
  obtain⟨X,e',rfl,hX,hXs,hXt,hXz⟩:=ha.shape Q1 rfl rfl
  have k1:=x1.Zd
  have y1:=x0.trans x1
  have n1:=x1.nx
  simp only at k1 n1
  have d1:¬s1.nx=st.nx:=by omega
  have z:∀p q,Ext st ⟨(s1.nx,p)::Z7 s1.h st.nx q,s1.nx+1⟩:=fun p q=>(Ext.Qw (st:=st) (h:=s1.h) (m:=s1.nx) (n:=st.nx) y1 (Nat.le_refl _)).Zf (Nat.lt_succ_self _)
  rcases ha with ⟨h1,h2⟩ | ⟨h1,v',u',h2,h3,h4⟩
  ·injection h2 with h2
   injection h2 with h2 h5
   injection h5 with h5
   injection h5 with h6 h7
   have e:Ie hp ops op=(obZ,false):=by unfold Ie;rw[if_neg (by simp[h1])]
   rw[e]
   simp (disch:=omega) [go_sem,k1,hX,hXs,hXt,hXz,Zk,h7,h1,d1,B.zOb,obZ]
   exact z _ _
  ·injection h2 with h2
   injection h2 with h2 h5
   injection h5 with h5
   injection h5 with h6 h7
   injection h2 with h2
   have hl:=h3.Y0
   subst h7 h2
   by_cases hl1:(doR ops hp op).2.1.length=1
   ·have e:Ie hp ops op=((doR ops hp op).2.1.getD 0 obZ,true):=by unfold Ie;rw[if_pos ⟨h1,hl1⟩]
    rw[e]
    obtain⟨n,off,ob,hat⟩:=h3.acc y1.wf
    obtain⟨a1,a2,a3,a4⟩:=hat 0 ((doR ops hp op).2.1.getD 0 obZ) (by omega) (by rw[List.getD_eq_getElem?_getD];rw[show (0:Int).toNat=0 from rfl,List.getElem?_eq_getElem (by omega)];rfl)
    simp only[Int.toNat_zero,Nat.zero_mul,Nat.add_zero]at a3 a4
    rw[hl1]at hl
    generalize (doR ops hp op).2.1.getD 0 obZ=oo at*
    have d2:¬s1.nx=n:=by omega
    simp (disch:=omega) [go_sem,↓Qy,↓Zp,k1,hXs,hXt,hXz,Zk,hl,d1,d2,B.zOb,a2,a3,a4,Q1.len,Q1.take]
    exact z _ _
   ·have e:Ie hp ops op=(obZ,false):=by unfold Ie;rw[if_neg (by simp[hl1])]
    rw[e]
    have hl2:¬(((doR ops hp op).2.1.length:Nat):Int)=1:=by omega
    simp (disch:=omega) [go_sem,↓Qy,k1,hXs,hXt,hXz,Zk,hl,hl2,d1,B.zOb,obZ,Q1.len,Q1.take]
    exact z _ _
end Go.Ev

/- Plain laws of bits: De Morgan, shifts. -/
namespace Go.Ev
open Go
end Go.Ev

/- The law's own helpers told: i, b, r, gives. -/
namespace Go.Ev
open Go
variable {T : Tab} {st st' : St}
theorem Ke (H:B.Cr T) (hwf:st.Wf) (n:Int):Z9 T st (.fn 301 [] []) [.int .i64 n] (Jc n).v:=by
 refine Zm H.e H.f rfl ?_
 have x0:=(Ext.refl hwf).Zf (o:= .cells 451 true B.zOb) (Nat.lt_succ_self st.nx)
 simp (disch:=omega) [B.Qz,go_sem,B.zOb,Jc]
 exact((Ext.refl hwf).Zf (Nat.lt_succ_self st.nx))
theorem Ze3 (H:B.Cs T) (hwf:st.Wf) (n:Int):Z9 T st (.fn 307 [] []) [.int .i64 n] (Uc n).v:=by
 refine Zm H.e H.f rfl ?_
 simp (disch:=omega) [B.Xt,go_sem,B.zOb,Uc]
 exact((Ext.refl hwf).Zf (Nat.lt_succ_self st.nx))
theorem Znk (H:B.Gb T) (hwf:st.Wf) (b:Bool):Z9 T st (.fn 325 [] []) [.bool b] (Qp b).v:=by
 refine Zm H.e H.f rfl ?_
 cases b
 all_goals
  simp (disch:=omega) [B.U6,go_sem,B.zOb,Qp]
  exact((Ext.refl hwf).Zf (Nat.lt_succ_self st.nx))
theorem Zdi (H:B.Cq T) (hwf:st.Wf) (b:Bool):Z9 T st (.fn 302 [] []) [.bool b] (Qp b).v:=by
 refine Zm H.e H.f rfl ?_
 have x0:=(Ext.refl hwf).Zf (o:= .cells 451 true B.zOb) (Nat.lt_succ_self st.nx)
 simp (disch:=omega) [B.Xs,go_sem]
 refine(Znk H.U6 x0.wf b).use fun s1 x1=> ?_
 have k1:=x1.Zd
 have y1:=x0.trans x1
 have n1:=x1.nx
 simp only at k1 n1
 simp (disch:=omega) [go_sem,k1,B.zOb]
 exact(Ext.Qw (st:=st) (h:=s1.h) (m:=s1.nx) (n:=st.nx) y1 (by omega))
def Ro (hp:List Ce) (op:List UInt8) (want:Ob) (ops:List Ob):Bool:=decide ((doR ops hp op).1=0∧(doR ops hp op).2.1=[want])
theorem Ue (H:B.Rg T) (hwf:st.Wf) {vh vl:AV} {ops:List Ob} {hp:List Ce} (r0:RdO st.h vl ops) (r2:HpR st.h vh hp) (hb:ops.length<1000000) (hs:HpS hp) (hpw:Pow st) (hbr:Bru st) (op:List UInt8) (want:Ob):
  Z9 T st (.fn 312 [] []) [vh,.str op,want.v,vl] (.bool (Ro hp op want ops)):=by
 refine Zm H.e H.f rfl ?_
 have s0:=RdS.sc r0
 have s2:=r2.sc
 have x0:=(Ext.refl hwf).Zf (o:= .cells 451 true want.A) (Nat.lt_succ_self st.nx)
 have key:∀K:AV→St→Prop,(∀w s,(Ext ⟨(st.nx,.cells 451 true want.A)::st.h,st.nx+1⟩ s∧Kn s w vl .Zc vh Oh (doR ops hp op).1 (doR ops hp op).2.1 (doR ops hp op).2.2)→K w s)→Qt (call T (.fn 308 [] []) [.agg (vl:: .Zc::vh::Oh),.str op] ⟨(st.nx,.cells 451 true want.A)::st.h,st.nx+1⟩) K:=
  fun K hK=>(Znv H.Qv x0.wf Q1 (r0.ext x0 hwf) (r2.ext x0 hwf) hb hs (hpw.ext x0 hwf) (hbr.ext x0 hwf) op).mono hK
 rcases r0.form hwf with ⟨e0,e0'⟩ | ⟨n0,off0,cp0,ob0,e0,_⟩ <;> rcases r2.form hwf with ⟨e2,e2'⟩ | ⟨n2,off2,cp2,ob2,e2,_⟩
 all_goals
  rw[e0,e2]at key
  simp (disch:=omega) [B.Ja,go_sem,Zk,Zin,e0,e2]
  refine key _ ?_
  rintro w s1 ⟨x1,ha⟩
  obtain⟨X,e',rfl,hX,hXs,hXt,hXz⟩:=ha.shape Q1 rfl rfl
  have k1:=x1.Zd
  have y1:=x0.trans x1
  have n1:=x1.nx
  simp only at k1 n1
  have d1:¬s1.nx=st.nx:=by omega
  have z:∀p,Ext st ⟨(s1.nx,p)::s1.h,s1.nx+1+17⟩:=fun p=>y1.Zf (by omega)
  rcases ha with ⟨h1,h2⟩ | ⟨h1,v',u',h2,h3,h4⟩
  ·injection h2 with h2
   injection h2 with h2 h5
   injection h5 with h5
   injection h5 with h6 h7
   have e:Ro hp op want ops=false:=by unfold Ro;exact decide_eq_false (fun h=>h1 h.1)
   rw[e]
   simp (disch:=omega) [go_sem,k1,hX,hXs,hXt,hXz,Zk,h7,h1,d1]
   exact z _
  ·injection h2 with h2
   injection h2 with h2 h5
   injection h5 with h5
   injection h5 with h6 h7
   injection h2 with h2
   have hl:=h3.Y0
   subst h7 h2
   by_cases hl1:(doR ops hp op).2.1.length=1
   ·obtain⟨oo,hoo⟩:∃oo,(doR ops hp op).2.1=[oo]:=List.length_eq_one_iff.1 hl1
    have e:Ro hp op want ops=decide (oo=want):=by unfold Ro;rw[hoo];simp[h1]
    rw[e]
    rw[hoo]at h3 hl
    obtain⟨n,off,ob,hat⟩:=h3.acc y1.wf
    obtain⟨a1,a2,a3,a4⟩:=hat 0 oo (by omega) rfl
    simp only[Int.toNat_zero,Nat.zero_mul,Nat.add_zero]at a3 a4
    have d2:¬s1.nx=n:=by omega
    have heq:=eqOb oo want
    simp only[Zv6,Ob.A]at heq
    simp (disch:=omega) [go_sem,↓Qy,↓Zp,k1,hXs,hXt,hXz,Zk,hl,d1,d2,a2,a3,a4,Q1.len,Q1.take,heq]
    exact z _
   ·have e:Ro hp op want ops=false:=by unfold Ro;exact decide_eq_false (fun h=>hl1 (by rw[h.2];rfl))
    rw[e]
    have hl2:¬(((doR ops hp op).2.1.length:Nat):Int)=1:=by omega
    simp (disch:=omega) [go_sem,↓Qy,k1,hXs,hXt,hXz,Zk,hl,hl2,d1,Q1.len,Q1.take]
    exact z _
end Go.Ev

/- Slices of objects compared. -/
namespace Go.Ev
open Go
variable {T : Tab} {st st' : St}
theorem Zgl {α:Type} {a b:List α} {i:Nat} (h:a.take i=b.take i) (hi:a[i]? =b[i]?):a.take (i+1)=b.take (i+1):=by
 rw[List.take_add_one,List.take_add_one,h,hi]
theorem Zr2 (hwf:st.Wf) {va vb:AV} {a b:List Ob} (ra:RdO st.h va a) (rb:RdO st.h vb b) (hab:a.length=b.length) (hl:a.length<1000000000):∀(m i k:Nat) (e:Env),st.nx≤k→i+m=a.length→a.take i=b.take i→Zl e 0=va→Zl e 1=vb→Zl e 5= .int .i64 i→
  Res (run T (.loop B.Yj) e ⟨st.h,k⟩) fun q e' s'=>s'.h=st.h∧st.nx≤s'.nx∧((q= .ret∧a≠b∧Zl e' 4= .bool false)∨(q= .exit 0∧a=b)):=by
 intro m
 have la:=ra.Y0
 have lb:=rb.Y0
 induction m with
 | zero=>
   intro i k e hk hi hn g0 g1 g5
   rw[Zs]
   have:¬(i:Int)<a.length:=by omega
   have hx:a=b:=by
    rw[List.take_of_length_le (by omega),List.take_of_length_le (by omega)]at hn
    exact hn
   simp[B.Yj,go_sem,↓Qy,la,g0,g1,g5,this,eq_true hx,hk]
 | succ m ih=>
   intro i k e hk hi hn g0 g1 g5
   rw[Zs]
   have h1:(i:Int)<a.length:=by omega
   obtain⟨x,hx⟩:∃x,a[i]? =some x:=⟨_,List.getElem?_eq_getElem (by omega)⟩
   obtain⟨y,hy⟩:∃y,b[i]? =some y:=⟨_,List.getElem?_eq_getElem (by omega)⟩
   obtain⟨n,off,ob,hat⟩:=ra.acc hwf
   obtain⟨a1,a2,a3,a4⟩:=hat i x (by omega) (by simpa using hx)
   obtain⟨n',off',ob',hat'⟩:=rb.acc hwf
   obtain⟨b1,b2,b3,b4⟩:=hat' i y (by omega) (by simpa using hy)
   simp only[Int.toNat_natCast]at a3 a4 b3 b4
   have heq:=eqOb x y
   simp only[Zv6,Ob.A]at heq
   by_cases hxy:x=y
   ·simp (disch:=omega) [B.Yj,go_sem,↓Qy,↓Zp,la,lb,g0,g1,g5,h1,a2,a3,a4,b2,b3,b4,heq,eq_true hxy]
    refine ih (i+1) (k+9) _ (by omega) (by omega) (Zgl hn (by rw[hx,hy,hxy])) ?_ ?_ ?_ <;> simp[go_sem,g0,g1]
   ·have hne:a≠b:=fun h=>hxy (by rw[h,hy]at hx;injection hx with hx;exact hx.symm)
    simp (disch:=omega) [B.Yj,go_sem,↓Qy,↓Zp,la,lb,g0,g1,g5,h1,a2,a3,a4,b2,b3,b4,heq,hxy]
    exact⟨by omega,hne⟩
theorem Bq (H:B.Lm T) (hwf:st.Wf) {va vb:AV} {a b:List Ob} (ra:RdO st.h va a) (rb:RdO st.h vb b) (hl:a.length<1000000000):Z9 T st (.fn 360 [] []) [va,vb] (.bool (decide (a=b))):=by
 refine Zm H.e H.f rfl ?_
 have la:=ra.Y0
 have lb:=rb.Y0
 by_cases hab:a.length=b.length
 ·have hab':(a.length:Int)=b.length:=by omega
  simp[B.Jo,go_sem,↓Qy,la,lb,hab',RdS.sc ra,RdS.sc rb]
  refine(Zr2 hwf ra rb hab hl a.length 0 _ _ (Nat.le_refl _) (by omega) rfl (by simp[go_sem]) (by simp[go_sem]) (by simp[go_sem])).mono ?_
  rintro q e' ⟨sh,sn⟩ ⟨e1,e2,⟨rfl,hne,h4⟩ | ⟨rfl,he⟩⟩ <;> simp only at e1 e2 <;> subst e1
  ·simp[go_sem,h4,hne];exact(Ext.refl hwf).upN e2
  ·simp[go_sem,he];exact(Ext.refl hwf).upN e2
 ·have hab':¬(a.length:Int)=b.length:=by omega
  have hne:a≠b:=fun h=>hab (by rw[h])
  simp[B.Jo,go_sem,↓Qy,la,lb,hab',hne,RdS.sc ra,RdS.sc rb]
  exact Ext.refl hwf
theorem Znx (hwf:st.Wf) {va vb:AV} {a b:List Ob} (ra:RdO st.h va a) (rb:RdO st.h vb b) (hab:a.length=b.length) (hl:a.length<1000000000):∀(m i k:Nat) (e:Env),st.nx≤k→i+m=a.length→a.take i=b.take i→Zl e 0=va→Zl e 1=vb→Zl e 12= .int .i64 a.length→Zl e 13= .int .i64 i→
  Res (run T (.loop B.Jl) e ⟨st.h,k⟩) fun q e' s'=>s'.h=st.h∧st.nx≤s'.nx∧((q= .ret∧a≠b∧Zl e' 4= .bool false)∨(q= .exit 0∧a=b)):=by
 intro m
 induction m with
 | zero=>
   intro i k e hk hi hn g0 g1 g4 g5
   rw[Zs]
   have:¬(i:Int)<a.length:=by omega
   have hx:a=b:=by
    rw[List.take_of_length_le (by omega),List.take_of_length_le (by omega)]at hn
    exact hn
   simp[B.Jl,go_sem,g0,g1,g4,g5,this,eq_true hx,hk]
 | succ m ih=>
   intro i k e hk hi hn g0 g1 g4 g5
   rw[Zs]
   have h1:(i:Int)<a.length:=by omega
   obtain⟨x,hx⟩:∃x,a[i]? =some x:=⟨_,List.getElem?_eq_getElem (by omega)⟩
   obtain⟨y,hy⟩:∃y,b[i]? =some y:=⟨_,List.getElem?_eq_getElem (by omega)⟩
   obtain⟨n,off,ob,hat⟩:=ra.acc hwf
   obtain⟨a1,a2,a3,a4⟩:=hat i x (by omega) (by simpa using hx)
   obtain⟨n',off',ob',hat'⟩:=rb.acc hwf
   obtain⟨b1,b2,b3,b4⟩:=hat' i y (by omega) (by simpa using hy)
   simp only[Int.toNat_natCast]at a3 a4 b3 b4
   have heq:=eqOb x y
   simp only[Zv6,Ob.A]at heq
   by_cases hxy:x=y
   ·simp (disch:=omega) [B.Jl,go_sem,↓Qy,↓Zp,g0,g1,g4,g5,h1,a2,a3,a4,b2,b3,b4,heq,eq_true hxy]
    refine ih (i+1) (k+9) _ (by omega) (by omega) (Zgl hn (by rw[hx,hy,hxy])) ?_ ?_ ?_ ?_ <;> simp[go_sem,g0,g1,g4]
   ·have hne:a≠b:=fun h=>hxy (by rw[h,hy]at hx;injection hx with hx;exact hx.symm)
    simp (disch:=omega) [B.Jl,go_sem,↓Qy,↓Zp,g0,g1,g4,g5,h1,a2,a3,a4,b2,b3,b4,heq,hxy]
    exact⟨by omega,hne⟩
theorem Zho (H:B.Y5 T) (hwf:st.Wf) {va vb:AV} {a b:List Ob} (ra:RdO st.h va a) (rb:RdO st.h vb b) (hl:a.length<1000000000):Z9 T st (.fn 358 [] []) [va,vb] (.bool (decide (a=b))):=by
 refine Zm H.e H.f rfl ?_
 have la:=ra.Y0
 have lb:=rb.Y0
 by_cases hab:a.length=b.length
 ·have hab':(a.length:Int)=b.length:=by omega
  simp[B.Q2,go_sem,↓Qy,la,lb,hab',RdS.sc ra,RdS.sc rb]
  refine(Znx hwf ra rb hab hl a.length 0 _ _ (Nat.le_refl _) (by omega) rfl (by simp[go_sem]) (by simp[go_sem]) (by simp[go_sem,hab']) (by simp[go_sem])).mono ?_
  rintro q e' ⟨sh,sn⟩ ⟨e1,e2,⟨rfl,hne,h4⟩ | ⟨rfl,he⟩⟩ <;> simp only at e1 e2 <;> subst e1
  ·simp[go_sem,h4,hne];exact(Ext.refl hwf).upN e2
  ·simp[go_sem,he];exact(Ext.refl hwf).upN e2
 ·have hab':¬(a.length:Int)=b.length:=by omega
  have hne:a≠b:=fun h=>hab (by rw[h])
  simp[B.Q2,go_sem,↓Qy,la,lb,hab',hne,RdS.sc ra,RdS.sc rb]
  exact Ext.refl hwf
end Go.Ev

/- Heaps compared; fails, writes. -/
namespace Go.Ev
open Go
variable {T : Tab} {st st' : St}
theorem Zky (H:B.Ll T) (hwf:st.Wf) {c d:Ce} {x y:List AV} (hc:CeR st.h c x) (hd:CeR st.h d y) (h1:c.it.length<1000000000) (h2:c.ks.length<1000000000) (h3:c.vs.length<1000000000):Z9 T st (.fn 402 [] []) [.agg x,.agg y] (.bool (decide (c=d))):=by
 refine Zm H.e H.f rfl ?_
 obtain⟨p,q,r,rfl,ri,rk,rv⟩:=hc.row
 obtain⟨p',q',r',rfl,ri',rk',rv'⟩:=hd.row
 have x0:=((Ext.refl hwf).Zf (o:= .cells 486 true [.int .i64 c.k,.str c.b,p,q,r,.int .i64 c.mx,.int .i64 c.at']) (Nat.lt_succ_self st.nx)).Zf (o:= .cells 486 true [.int .i64 d.k,.str d.b,p',q',r',.int .i64 d.mx,.int .i64 d.at']) (Nat.lt_succ_self (st.nx+1))
 have s1:=RdS.sc ri
 have s2:=RdS.sc rk
 have s3:=RdS.sc rv
 have s1':=RdS.sc ri'
 have s2':=RdS.sc rk'
 have s3':=RdS.sc rv'
 have d0:¬st.nx+1=st.nx:=by omega
 obtain⟨R,hR⟩:∃R,decide (c=d)=R:=⟨_,rfl⟩
 rw[hR]
 by_cases e1:c.k=d.k
 case neg=>
  have:R=false:=by rw[←hR];exact decide_eq_false (fun h=>e1 (by rw[h]))
  simp (disch:=omega) [B.J1,go_sem,s1,s2,s3,s1',s2',s3',d0,e1,this]
  exact x0.upN (by simp)
 by_cases e2:c.b=d.b
 case neg=>
  have:R=false:=by rw[←hR];exact decide_eq_false (fun h=>e2 (by rw[h]))
  simp (disch:=omega) [B.J1,go_sem,s1,s2,s3,s1',s2',s3',d0,eq_true e1,Br,e2,this]
  exact x0.upN (by simp)
 simp (disch:=omega) [B.J1,go_sem,s1,s2,s3,s1',s2',s3',d0,eq_true e1,Br,eq_true e2]
 refine(Bq H.Jo x0.wf (ri.ext x0 hwf) (ri'.ext x0 hwf) h1).use fun q1 x1=> ?_
 have k1:=x1.Zd
 have y1:=x0.trans x1
 have n1:=x1.nx
 simp only at k1 n1
 by_cases e3:c.it=d.it
 case neg=>
  have:R=false:=by rw[←hR];exact decide_eq_false (fun h=>e3 (by rw[h]))
  simp (disch:=omega) [go_sem,k1,s1,s2,s3,s1',s2',s3',d0,e3,this]
  exact y1.upN (by simp)
 simp (disch:=omega) [go_sem,k1,s1,s2,s3,s1',s2',s3',d0,eq_true e3]
 refine(Bq H.Jo y1.wf (rk.ext y1 hwf) (rk'.ext y1 hwf) h2).use fun q2 x2=> ?_
 have k2:=x2.Zd
 have y2:=y1.trans x2
 have n2:=x2.nx
 by_cases e4:c.ks=d.ks
 case neg=>
  have:R=false:=by rw[←hR];exact decide_eq_false (fun h=>e4 (by rw[h]))
  simp (disch:=omega) [go_sem,k1,k2,s1,s2,s3,s1',s2',s3',d0,e4,this]
  exact y2.upN (by simp)
 simp (disch:=omega) [go_sem,k1,k2,s1,s2,s3,s1',s2',s3',d0,eq_true e4]
 refine(Bq H.Jo y2.wf (rv.ext y2 hwf) (rv'.ext y2 hwf) h3).use fun q3 x3=> ?_
 have k3:=x3.Zd
 have y3:=y2.trans x3
 have n3:=x3.nx
 by_cases e5:c.vs=d.vs
 case neg=>
  have:R=false:=by rw[←hR];exact decide_eq_false (fun h=>e5 (by rw[h]))
  simp (disch:=omega) [go_sem,k1,k2,k3,s1,s2,s3,s1',s2',s3',d0,e5,this]
  exact y3.upN (by simp)
 by_cases e6:c.mx=d.mx
 case neg=>
  have:R=false:=by rw[←hR];exact decide_eq_false (fun h=>e6 (by rw[h]))
  simp (disch:=omega) [go_sem,k1,k2,k3,s1,s2,s3,s1',s2',s3',d0,eq_true e5,e6,this]
  exact y3.upN (by simp)
 have:R=decide (c.at'=d.at'):=by
  rw[←hR]
  cases c;cases d
  simp only[Ce.mk.injEq]at*
  simp[e1,e2,e3,e4,e5,e6]
 simp (disch:=omega) [go_sem,k1,k2,k3,s1,s2,s3,s1',s2',s3',d0,eq_true e5,eq_true e6,this]
 exact y3.upN (by simp)
def HpL (hp:List Ce):Prop:=∀c∈hp,c.it.length<1000000000∧c.ks.length<1000000000∧c.vs.length<1000000000
theorem Zwt (H:B.Lx T) (hwf:st.Wf) {va vb:AV} {a b:List Ce} (ra:HpR st.h va a) (rb:HpR st.h vb b) (hab:a.length=b.length) (hl:a.length<1000000000) (hL:HpL a):∀(m i:Nat) (e:Env) (st1:St),Ext st st1→i+m=a.length→a.take i=b.take i→Zl e 0=va→Zl e 1=vb→Zl e 5= .int .i64 i→
  Res (run T (.loop B.Xu) e st1) fun q e' s'=>Ext st s'∧((q= .ret∧a≠b∧Zl e' 4= .bool false)∨(q= .exit 0∧a=b)):=by
 intro m
 have la:=ra.Y0
 have lb:=rb.Y0
 induction m with
 | zero=>
   intro i e st1 hk hi hn g0 g1 g5
   rw[Zs]
   have:¬(i:Int)<a.length:=by omega
   have hx:a=b:=by
    rw[List.take_of_length_le (by omega),List.take_of_length_le (by omega)]at hn
    exact hn
   simp[B.Xu,go_sem,↓Qy,la,g0,g1,g5,this,eq_true hx,hk]
 | succ m ih=>
   intro i e st1 hk hi hn g0 g1 g5
   rw[Zs]
   have h1:(i:Int)<a.length:=by omega
   obtain⟨x,hx⟩:∃x,a[i]? =some x:=⟨_,List.getElem?_eq_getElem (by omega)⟩
   obtain⟨y,hy⟩:∃y,b[i]? =some y:=⟨_,List.getElem?_eq_getElem (by omega)⟩
   obtain⟨n,off,ob,hat⟩:=(ra.ext hk hwf).acc hk.wf
   obtain⟨a1,a2,a3,X,a4,a5⟩:=hat i x (by omega) (by simpa using hx)
   obtain⟨n',off',ob',hat'⟩:=(rb.ext hk hwf).acc hk.wf
   obtain⟨b1,b2,b3,Y,b4,b5⟩:=hat' i y (by omega) (by simpa using hy)
   simp only[Int.toNat_natCast]at a3 a4 b3 b4
   obtain⟨l1,l2,l3⟩:=hL x (List.mem_of_getElem? hx)
   have xk:Ext st1 ⟨st1.h,st1.nx+10⟩:=(Ext.refl hk.wf).upN (by omega)
   simp (disch:=omega) [B.Xu,go_sem,↓Qy,↓Zp,la,lb,g0,g1,g5,h1,a2,a3,a4,b2,b3,b4]
   refine(Zky H.J1 xk.wf (a5.ext xk hk.wf) (b5.ext xk hk.wf) l1 l2 l3).use fun q1 x1=> ?_
   have y1:=(hk.trans xk).trans x1
   by_cases hxy:x=y
   ·simp (disch:=omega) [go_sem,↓Qy,↓Zp,la,lb,g0,g1,g5,eq_true hxy]
    refine ih (i+1) _ _ y1 (by omega) (Zgl hn (by rw[hx,hy,hxy])) ?_ ?_ ?_ <;> simp[go_sem,g0,g1]
   ·have hne:a≠b:=fun h=>hxy (by rw[h,hy]at hx;injection hx with hx;exact hx.symm)
    simp (disch:=omega) [go_sem,↓Qy,↓Zp,la,lb,g0,g1,g5,hxy]
    exact⟨y1,hne⟩
theorem Zpo (H:B.Lx T) (hwf:st.Wf) {va vb:AV} {a b:List Ce} (ra:HpR st.h va a) (rb:HpR st.h vb b) (hl:a.length<1000000000) (hL:HpL a):Z9 T st (.fn 359 [] []) [va,vb] (.bool (decide (a=b))):=by
 refine Zm H.e H.f rfl ?_
 have la:=ra.Y0
 have lb:=rb.Y0
 by_cases hab:a.length=b.length
 ·have hab':(a.length:Int)=b.length:=by omega
  simp[B.V1,go_sem,↓Qy,la,lb,hab',ra.sc,rb.sc]
  refine(Zwt H hwf ra rb hab hl hL a.length 0 _ _ (Ext.refl hwf) (by omega) rfl (by simp[go_sem]) (by simp[go_sem]) (by simp[go_sem])).mono ?_
  rintro q e' s' ⟨hx,⟨rfl,hne,h4⟩ | ⟨rfl,he⟩⟩
  ·simp[go_sem,h4,hne];exact hx
  ·simp[go_sem,he];exact hx
 ·have hab':¬(a.length:Int)=b.length:=by omega
  have hne:a≠b:=fun h=>hab (by rw[h])
  simp[B.V1,go_sem,↓Qy,la,lb,hab',hne,ra.sc,rb.sc]
  exact Ext.refl hwf
def O7 (hp:List Ce) (op:List UInt8) (want:Int) (ops:List Ob):Bool:=decide ((doR ops hp op).1=want∧((doR ops hp op).1=0→(doR ops hp op).2.1=ops∧(doR ops hp op).2.2=hp))
set_option maxHeartbeats 2000000 in
theorem Zbx (H:B.Rf T) (hwf:st.Wf) {vh vl:AV} {ops:List Ob} {hp:List Ce} (r0:RdO st.h vl ops) (r2:HpR st.h vh hp) (hb:ops.length<1000000) (hb2:hp.length<1000000) (hL:HpL hp) (hs:HpS hp) (hpw:Pow st) (hbr:Bru st) (op:List UInt8) (want:Int) (hw:want≠0):
  Z9 T st (.fn 314 [] []) [vh,.str op,.int .i64 want,vl] (.bool (O7 hp op want ops)):=by
 refine Zm H.e H.f rfl ?_
 have s0:=RdS.sc r0
 have s2:=r2.sc
 have key:∀K:AV→St→Prop,(∀w s,(Ext st s∧Kn s w vl .Zc vh Oh (doR ops hp op).1 (doR ops hp op).2.1 (doR ops hp op).2.2)→K w s)→Qt (call T (.fn 308 [] []) [.agg (vl:: .Zc::vh::Oh),.str op] st) K:=
  fun K hK=>(Znv H.Qv hwf Q1 r0 r2 hb hs hpw hbr op).mono hK
 rcases r0.form hwf with ⟨e0,e0'⟩ | ⟨n0,off0,cp0,ob0,e0,_⟩ <;> rcases r2.form hwf with ⟨e2,e2'⟩ | ⟨n2,off2,cp2,ob2,e2,_⟩
 all_goals
  rw[e0,e2]at key
  simp (disch:=omega) [B.Y6,go_sem,Zk,Zin,e0,e2]
  refine key _ ?_
  rintro w s1 ⟨x1,ha⟩
  obtain⟨X,e',rfl,hX,hXs,hXt,hXz⟩:=ha.shape Q1 rfl rfl
  have k1:=x1.Zd
  have n1:=x1.nx
  have z:∀p,Ext st ⟨(s1.nx,p)::s1.h,s1.nx+1⟩:=fun p=>x1.Zf (by omega)
  rcases ha with ⟨h1,h2⟩ | ⟨h1,v',u',h2,h3,h4⟩
  ·injection h2 with h2
   injection h2 with h2 h5
   injection h5 with h5
   injection h5 with h6 h7
   injection h2 with h2
   subst h2
   by_cases hw1:(doR ops hp op).1=want
   ·have e:O7 hp op want ops=true:=by unfold O7;exact decide_eq_true ⟨hw1,fun h=>absurd h h1⟩
    rw[e]
    have xz:=z (.cells 457 true (vl:: .Zc::vh::Oh))
    rw[e0,e2]at xz
    have q0:=r0.ext xz hwf
    have q2:=r2.ext xz hwf
    rw[e0]at q0
    rw[e2]at q2
    simp (disch:=omega) [go_sem,k1,hX,hXs,hXt,hXz,Zk,h7,hw1,Q1.len,Q1.take]
    refine(Zho H.Q2 xz.wf q0 q0 (by omega)).use fun s2 x2=> ?_
    have k2:=x2.Zd
    have n2:=x2.nx
    simp only at k2 n2
    have y2:=xz.trans x2
    simp (disch:=omega) [go_sem,k1,k2,hX,hXs,hXt,hXz,Zk,Q1.len,Q1.take]
    refine(Zpo H.V1 y2.wf (q2.ext x2 xz.wf) (q2.ext x2 xz.wf) (by omega) hL).use fun s3 x3=> ?_
    have y3:=y2.trans x3
    simp (disch:=omega) [go_sem,k1,k2,y3]
   ·have e:O7 hp op want ops=false:=by unfold O7;exact decide_eq_false (fun h=>hw1 h.1)
    rw[e]
    simp (disch:=omega) [go_sem,k1,hX,hXs,hXt,hXz,Zk,h7,hw1,Q1.len,Q1.take]
    exact z _
  ·have e:O7 hp op want ops=false:=by unfold O7;exact decide_eq_false (fun h=>hw (by rw[←h.1,h1]))
   rw[e]
   injection h2 with h2
   injection h2 with h2 h5
   injection h5 with h5
   injection h5 with h6 h7
   injection h2 with h2
   subst h7 h2
   have hw1:¬(0:Int)=want:=fun h=>hw h.symm
   simp (disch:=omega) [go_sem,k1,hX,hXs,hXt,hXz,Zk,hw1,Q1.len,Q1.take]
   exact z _
end Go.Ev

/- The law's own helpers told: writes. -/
namespace Go.Ev
open Go
variable {T : Tab} {st st' : St}
def Cj (hp:List Ce) (op:List UInt8) (want:List UInt8) (ops:List Ob):Bool:=
 decide ((doR ops hp op).1=0∧(doR ops hp op).2.1.length=1) &&
  (decide (((doR ops hp op).2.1.getD 0 obZ).k=6∧((doR ops hp op).2.1.getD 0 obZ).r=(ops.getD (ops.length - 1) obZ).r) &&
    decide ((Jn (doR ops hp op).2.2 ((doR ops hp op).2.1.getD 0 obZ)).2=0∧(Jn (doR ops hp op).2.2 ((doR ops hp op).2.1.getD 0 obZ)).1=want))
set_option maxHeartbeats 4000000 in
theorem Zae (H:B.Nf T) (hwf:st.Wf) {vh vl:AV} {ops:List Ob} {hp:List Ce} (r0:RdO st.h vl ops) (r2:HpR st.h vh hp) (hb:ops.length<1000000) (h0:ops≠[]) (hs:HpS hp) (hpw:Pow st) (hbr:Bru st) (op want:List UInt8):
  Z9 T st (.fn 313 [] []) [vh,.str op,.str want,vl] (.bool (Cj hp op want ops)):=by
 refine Zm H.e H.f rfl ?_
 have s0:=RdS.sc r0
 have s2:=r2.sc
 have ll:=r0.Y0
 have hpos:0<ops.length:=List.length_pos_iff.2 h0
 have key:∀K:AV→St→Prop,(∀w s,(Ext st s∧Kn s w vl .Zc vh Oh (doR ops hp op).1 (doR ops hp op).2.1 (doR ops hp op).2.2)→K w s)→Qt (call T (.fn 308 [] []) [.agg (vl:: .Zc::vh::Oh),.str op] st) K:=
  fun K hK=>(Znv H.Qv hwf Q1 r0 r2 hb hs hpw hbr op).mono hK
 rcases r0.form hwf with ⟨e0,e0'⟩ | ⟨n0,off0,cp0,ob0,e0,_⟩
 ·exact absurd e0' h0
 rcases r2.form hwf with ⟨e2,e2'⟩ | ⟨n2,off2,cp2,ob2,e2,_⟩
 all_goals
  rw[e0,e2]at key
  simp (disch:=omega) [B.Yi,go_sem,Zk,Zin,e0,e2]
  refine key _ ?_
  rintro w s1 ⟨x1,ha⟩
  obtain⟨X,e',rfl,hX,hXs,hXt,hXz⟩:=ha.shape Q1 rfl rfl
  have k1:=x1.Zd
  have n1:=x1.nx
  have z:∀p k,Ext st ⟨(s1.nx,p)::s1.h,s1.nx+1+k⟩:=fun p k=>x1.Zf (by omega)
  rcases ha with ⟨h1,h2⟩ | ⟨h1,v',u',h2,h3,h4⟩
  ·injection h2 with h2
   injection h2 with h2 h5
   injection h5 with h5
   injection h5 with h6 h7
   have e:Cj hp op want ops=false:=by unfold Cj;rw[decide_eq_false (fun h=>h1 h.1)];rfl
   rw[e]
   simp (disch:=omega) [go_sem,k1,hX,hXs,hXt,hXz,Zk,h7,h1,Q1.len,Q1.take]
   exact z _ _
  ·injection h2 with h2
   injection h2 with h2 h5
   injection h5 with h5
   injection h5 with h6 h7
   injection h2 with h2
   have hl:=h3.Y0
   subst h7 h2
   by_cases hl1:(doR ops hp op).2.1.length=1
   ·obtain⟨oo,hoo⟩:∃oo,(doR ops hp op).2.1=[oo]:=List.length_eq_one_iff.1 hl1
    obtain⟨ol,hol⟩:∃ol,ops.getD (ops.length - 1) obZ=ol:=⟨_,rfl⟩
    have hol':ops[ops.length - 1]? =some ol:=by rw[←hol,List.getD_eq_getElem?_getD,List.getElem?_eq_getElem (by omega)];rfl
    have e:Cj hp op want ops=(decide (oo.k=6∧oo.r=ol.r) && decide ((Jn (doR ops hp op).2.2 oo).2=0∧(Jn (doR ops hp op).2.2 oo).1=want)):=by
     unfold Cj;rw[hoo,hol,decide_eq_true ⟨h1,rfl⟩];rfl
    rw[e]
    rw[hoo]at h3 hl
    obtain⟨n,off,ob,hat⟩:=h3.acc x1.wf
    obtain⟨a1,a2,a3,a4⟩:=hat 0 oo (by omega) rfl
    simp only[Int.toNat_zero,Nat.zero_mul,Nat.add_zero]at a3 a4
    obtain⟨n',off',ob',hat'⟩:=(r0.ext x1 hwf).acc x1.wf
    obtain⟨b1,b2,b3,b4⟩:=hat' ((ops.length:Int) - 1) ol (by omega) (by rw[show ((ops.length:Int) - 1).toNat=ops.length - 1 by omega];exact hol')
    rw[show ((ops.length:Int) - 1).toNat=ops.length - 1 by omega]at b3 b4
    rw[e0]at b3 ll
    have b5:=Jg b4 (i:=4) (by omega)
    have a5:=Jg a4 (i:=4) (by omega)
    have a6:=Jg a4 (i:=0) (by omega)
    simp only[Ob.A,List.getElem?_cons_zero,List.getElem?_cons_succ,Nat.add_zero]at a5 a6 b5
    have d2:¬s1.nx=n:=by omega
    have d3:¬s1.nx=n':=by omega
    have hli:IntKind.i64.wrap ((ops.length:Int) - 1)=(ops.length:Int) - 1:=Zo (by omega) (by omega)
    by_cases hk6:oo.k=6
    ·by_cases hr:oo.r=ol.r
     ·simp (disch:=omega) [go_sem,↓Qy,↓Zp,k1,hXs,hXt,hXz,Zk,hl,ll,d2,d3,a2,a3,a4,a5,a6,b2,b3,b5,eq_true hk6,eq_true hr,hli,Q1.len,Q1.take]
      have xz:Ext s1 ⟨(s1.nx,.cells 457 true (v':: .Zc::u'::Oh))::s1.h,s1.nx+1+31+12⟩:=(Ext.refl x1.wf).Zf (by omega)
      refine(Mo H.Kc xz.wf (h4.ext xz x1.wf) oo).use fun s2 x2=> ?_
      have k2:=x2.Zd
      have n2:=x2.nx
      simp only at k2 n2
      have y2:=(x1.trans xz).trans x2
      generalize Jn (doR ops hp op).2.2 oo=bb
      by_cases hbb:bb.2=0
      ·simp (disch:=omega) [go_sem,eq_true hbb,Br]
       exact y2
      ·simp (disch:=omega) [go_sem,hbb,Br]
       exact y2
     ·simp (disch:=omega) [go_sem,↓Qy,↓Zp,k1,hXs,hXt,hXz,Zk,hl,ll,d2,d3,a2,a3,a4,a5,a6,b2,b3,b5,eq_true hk6,hr,hli,Q1.len,Q1.take]
      exact z _ _
    ·simp (disch:=omega) [go_sem,↓Qy,↓Zp,k1,hXs,hXt,hXz,Zk,hl,d2,a2,a3,a4,a6,hk6,Q1.len,Q1.take]
     exact z _ _
   ·have e:Cj hp op want ops=false:=by unfold Cj;rw[decide_eq_false (fun h=>hl1 h.2)];rfl
    rw[e]
    have hl2:¬(((doR ops hp op).2.1.length:Nat):Int)=1:=by omega
    simp (disch:=omega) [go_sem,↓Qy,k1,hXs,hXt,hXz,Zk,hl,hl2,Q1.len,Q1.take]
    exact z _ _
end Go.Ev

/- The law's own helpers told: strings. -/
namespace Go.Ev
open Go
variable {T : Tab} {st st' : St}
def J0 (ty es:Nat) (st0 s:St) (v:AV) (k:Nat) (cs:List AV):Prop:=Sl s v ty es k cs∧Dv [] st0 v∧NK v
theorem J0.nil (ty es:Nat) (st0 s:St):J0 ty es st0 s .Zc 0 []:=⟨.nil _ _ _,.nil _ _,fun _ _ _ _ h=>by cases h⟩
theorem J0.ge {ty es:Nat} {st0 s:St} {v:AV} {k:Nat} {cs:List AV} (a:J0 ty es st0 s v k cs):∀n∈v.nms,st0.nx≤n:=fun n hn=>by
 rcases a.2.1 n hn with h | h
 ·cases h
 ·exact h
theorem J0.Ma {ty es:Nat} {st0 s s':St} {v:AV} {k:Nat} {cs:List AV} {S:List Nat} (a:J0 ty es st0 s v k cs) (f:Frm S s s') (hw:s.Wf) (hn:∀n∈v.nms,n∉S):J0 ty es st0 s' v k cs:=⟨a.1.Ma f hw hn,a.2.1,a.2.2⟩
theorem J0.ext {ty es:Nat} {st0 s s':St} {v:AV} {k:Nat} {cs:List AV} (a:J0 ty es st0 s v k cs) (f:Ext s s') (hw:s.Wf):J0 ty es st0 s' v k cs:=⟨a.1.ext f hw,a.2.1,a.2.2⟩
theorem J0.Zb {ty es:Nat} {st0 s:St} {v:AV} {k c:Nat} {cs:List AV} (a:J0 ty es st0 s v k cs) (hw:s.Wf):J0 ty es st0 ⟨Go.Ev.Zb c s.h,s.nx⟩ v k cs:=⟨a.1.Zb hw,a.2.1,a.2.2⟩
theorem J0.sc {ty es:Nat} {st0 s:St} {v:AV} {k:Nat} {cs:List AV} (a:J0 ty es st0 s v k cs):v.sc=true:=by
 obtain⟨⟨m,hsl⟩,b6,b7⟩:=a
 rcases hsl with ⟨k1,k2,k3⟩ | ⟨k1,k2,k3⟩ | ⟨ty',k1,k2,k3⟩ <;> rw[k1] <;> rfl
theorem J0.lt {ty es:Nat} {st0 s:St} {v:AV} {k:Nat} {cs:List AV} (a:J0 ty es st0 s v k cs) (hw:s.Wf):∀n∈v.nms,n<s.nx:=by
 obtain⟨⟨m,hsl⟩,b6,b7⟩:=a
 rcases hsl with ⟨k1,k2,k3⟩ | ⟨k1,k2,k3⟩ | ⟨ty',k1,k2,k3⟩
 ·rw[k1];intro n hn;cases hn
 ·rw[k1];intro n hn;simp only[AV.nms,List.mem_singleton]at hn;subst hn;exact hw.lt _ _ k2
 ·rw[k1];intro n hn;simp only[AV.nms,List.mem_singleton]at hn;subst hn;exact hw.lt _ _ k2
theorem J0.rds {ty es:Nat} {st0 s:St} {v:AV} {k:Nat} {cs:List AV} (a:J0 ty es st0 s v k cs):RdS es s.h v k cs:=by
 obtain⟨⟨m,hsl⟩,b6,b7⟩:=a
 have hlen:=hsl.len
 refine⟨hlen,?_⟩
 rcases hsl with ⟨k1,k2,k3⟩ | ⟨k1,k2,k3⟩ | ⟨ty',k1,k2,k3⟩
 ·exact .inl ⟨k1,k3⟩
 ·refine .inr ⟨m,0,_,k1,trivial,⟨_,k2,rfl⟩,?_⟩
  simp only[Qg,k2]
  rw[if_pos (by omega),List.drop_zero,List.take_of_length_le (by omega)]
 ·exact absurd k1 (b7 _ _ _ _)
theorem J0.push {ty es b:Nat} {st0 s1:St} (hF:st0.nx≤s1.nx) (hw:s1.Wf) {v:AV} {k:Nat} {cs new:List AV} {j:Nat} (hj:0<j) (g:J0 ty es st0 s1 v k cs) (hl:k<1000000000) (hb:b<10000) (hn:new.length=es) (hsc:new.all AV.sc=true):
  Qt (Vf ty es b ⟨(s1.nx,.cells ty false new)::s1.h,s1.nx+j⟩ v (.slice s1.nx 0 1 (.known 1))) fun v' s=>J0 ty es st0 s v' (k+1) (cs++new)∧Frm v.nms s1 s∧∀n∈v'.nms,n∈v.nms∨s1.nx≤n:=by
 obtain⟨a1,a2,a3⟩:=g
 have xa:=Ext.newA hw (.cells ty false new) hj
 have hap:=Sl.append (x:= .slice s1.nx 0 1 (.known 1)) (j:=1) (new:=new) (b:=b) (Frm.refl xa.wf v.nms) (fun n h=> .inl h) (a1.ext xa hw)
  (.inr ⟨_,_,_,rfl,Lu (ty:=ty) (l:=false) (by simp[Zg]) (by omega)⟩) hsc (by
    have:(k+1)*b≤1000000000*10000:=Nat.mul_le_mul (by omega) (by omega)
    omega) (by omega) (.inl (by omega))
 refine(hap.Zxm (fun _ _ h=>C4 h a3)).mono ?_
 rintro v2 s2 ⟨⟨k1,k2,k3,_⟩,hnk2⟩
 refine⟨⟨k1,fun n hn=> ?_,hnk2⟩,(xa.fr v.nms).trans k2 (fun n h=> .inl h),fun n hn=> ?_⟩
 ·rcases k3 n hn with h | h
  ·exact a2 n h
  ·simp at h;exact .inr (by omega)
 ·rcases k3 n hn with h | h
  ·exact .inl h
  ·simp at h;exact .inr (by omega)
def ceS (s:List UInt8):Ce:=⟨1,s,[],[],[],0,0⟩
def obS (k:Nat) (s:List UInt8):Ob:=⟨6,false,0,[],k,0,s.length⟩
def Ig (l:List (List UInt8)):List Ce:=l.map ceS
def Zk2:Nat→List (List UInt8)→List Ob
 | _,[]=>[]
 | k,s::r=>obS k s::Zk2 (k+1) r
theorem Zm5:∀(k:Nat) (l:List (List UInt8)) (s:List UInt8),Zk2 k (l++[s])=Zk2 k l++[obS (k+l.length) s]
 | k,[],s=>rfl
 | k,t::r,s=>by
   simp only[List.cons_append,Zk2,Zm5 (k+1) r s,List.length_cons]
   rw[show k+1+r.length=k+(r.length+1)by omega]
theorem Zr9:∀(k:Nat) (l:List (List UInt8)),(Zk2 k l).length=l.length
 | _,[]=>rfl
 | k,_::r=>by simp[Zk2,Zr9 (k+1) r]
def ceA (s:List UInt8):List AV:=[.int .i64 1,.str s,.Zc,.Zc,.Zc,.int .i64 0,.int .i64 0]
def Zaa (l:List (List UInt8)):List AV:=l.map AV.str
theorem Zadh (h:Heap) (s:List UInt8):CeR h (ceS s) (ceA s):=⟨.Zc,.Zc,.Zc,rfl,.nil h,.nil h,.nil h⟩
theorem Zuo (h:Heap):∀l:List (List UInt8),U2 h (Ig l) (l.flatMap ceA)
 | []=>rfl
 | s::r=>⟨ceA s,r.flatMap ceA,rfl,Zadh h s,Zuo h r⟩
theorem Zaes {l:List (List UInt8)} (h:l.length<1000000) (h2:∀s∈l,s.length<1000000):HpS (Ig l):=by
 refine⟨by simpa [Ig] using h,fun c hc=> ?_⟩
 simp only[Ig,List.mem_map]at hc
 obtain⟨s,hs,rfl⟩:=hc
 exact h2 s hs
theorem Zza (l:List (List UInt8)):HpL (Ig l):=fun c hc=>by
 simp only[Ig,List.mem_map]at hc
 obtain⟨s,hs,rfl⟩:=hc
 simp[ceS]
theorem Zud {st0:St} (hw0:st0.Wf) {v0:AV} {l:List (List UInt8)} (hd0:Rd st0.h v0 1 l.length (Zaa l)) (hl:l.length<1000000):∀(m i:Nat) (v u:AV) (e:Env) (st1:St),i+m=l.length→Ext st0 st1→J0 486 7 st0 st1 v i ((l.take i).flatMap ceA)→J0 451 7 st0 st1 u i (Ku (Zk2 0 (l.take i)))→(∀n∈v.nms,n∉u.nms)→Zl e 4=v→Zl e 5=u→Zl e 8=v0→Zl e 9= .int .i64 l.length→Zl e 10= .int .i64 (i:Int)→
  Res (run T (.loop B.Yy) e st1) fun x e' s'=>x= .exit 0∧Ext st0 s'∧J0 486 7 st0 s' (Zl e' 4) l.length (l.flatMap ceA)∧J0 451 7 st0 s' (Zl e' 5) l.length (Ku (Zk2 0 l)):=by
 intro m
 induction m with
 | zero=>
   intro i v u e st1 hi hx hg hg' hvu g4 g5 g8 g9 g10
   have hil:i=l.length:=by omega
   subst hil
   rw[List.take_length]at hg hg'
   rw[Zs]
   simp[B.Yy,go_sem,g4,g5,g8,g9,g10,hx,hg,hg']
 | succ m ih=>
   intro i v u e st1 hi hx hg hg' hvu g4 g5 g8 g9 g10
   have hil:i<l.length:=by omega
   obtain⟨c,hc⟩:∃c,l[i]? =some c:=⟨_,List.getElem?_eq_getElem hil⟩
   have h1:(i:Int)<l.length:=by omega
   have ek:IntKind.i64.wrap ((i:Int)+1)=((i+1:Nat):Int):=Zo (by omega) (by omega)
   have hsn:l.take (i+1)=l.take i++[c]:=by rw[List.take_add_one,hc];rfl
   have hd:=hd0.ext hx hw0
   rcases hd with ⟨h3,h4,h5⟩ | ⟨n,off,cp,rfl,h2⟩
   ·omega
   have hrd:=Zrw h2 (i:=i) (by omega)
   have hce:(Zaa l)[i]? =some (.str c):=by simp[Zaa,hc]
   rw[hce]at hrd
   rw[Zhb]at hrd
   obtain⟨ob,hob⟩:=Cf h2
   rw[hob]at hrd
   simp only[Option.bind_some]at hrd
   rw[Zs]
   simp (disch:=omega) [B.Yy,go_sem,g4,g5,g8,g9,g10,h1,hob,hrd,B.zCe,hg.sc]
   refine(hg.push (b:=112) hx.nx hx.wf (j:=1) (by omega) (by omega) (by omega) rfl rfl).mono ?_
   rintro v2 s2 ⟨o2,f2,q2⟩
   have y2:=hx.Ma f2 hg.ge
   have hg2:=hg'.Ma f2 hx.wf (fun n hn hm=>hvu n hm hn)
   simp (disch:=omega) [go_sem,g4,g5,g8,g9,g10,B.zOb,hg'.sc,o2.sc]
   refine(hg2.push (b:=64) y2.nx y2.wf (j:=1) (by omega) (by omega) (by omega) rfl rfl).mono ?_
   rintro u2 s3 ⟨o3,f3,q3⟩
   have y3:=y2.Ma f3 hg2.ge
   have f2n:=f2.nx
   have d2:∀n∈v2.nms,n∉u.nms:=fun n hn hm=>by
    rcases q2 n hn with h | h
    ·exact hvu n h hm
    ·have:=hg'.lt hx.wf n hm;omega
   have o4:=o2.Ma f3 y2.wf d2
   simp (disch:=omega) [go_sem,g4,g5,g8,g9,g10,o2.sc,o3.sc]
   refine ih (i+1) v2 u2 _ s3 (by omega) y3 ?_ ?_ ?_ (by simp[go_sem]) (by simp[go_sem]) (by simp[go_sem]) (by simp[go_sem]) (by simp[go_sem,ek])
   ·rw[hsn];simpa [ceA] using o4
   ·rw[hsn,Zm5,E1,List.length_take,Nat.min_eq_left (by omega),Nat.zero_add];simpa [Ku,Ob.A,obS] using o3
   ·intro n hn hm
    rcases q3 n hm with h | h
    ·exact d2 n hn h
    ·have:=o2.lt y2.wf n hn;omega
theorem Zsa (H:B.Md T) (hwf:st.Wf) {v0:AV} {l:List (List UInt8)} (hd:Rd st.h v0 1 l.length (Zaa l)) (hl:l.length<1000000):
  Qt (call T (.fn 306 [] []) [v0] st) fun w s=>Ext st s∧∃v u,w= .tuple [v,u]∧HpR s.h v (Ig l)∧RdO s.h u (Zk2 0 l):=by
 refine Zw H.e H.f rfl ?_
 have key:∀e:Env,Zl e 4= .Zc→Zl e 5= .Zc→Zl e 8=v0→Zl e 9= .int .i64 l.length→Zl e 10= .int .i64 0→Res (run T (.loop B.Yy) e st) fun x e' s'=>x= .exit 0∧Ext st s'∧J0 486 7 st s' (Zl e' 4) l.length (l.flatMap ceA)∧J0 451 7 st s' (Zl e' 5) l.length (Ku (Zk2 0 l)):=
  fun e g4 g5 g8 g9 g10=>Zud hwf hd hl l.length 0 .Zc .Zc e st (by omega) (.refl hwf) (by simpa using J0.nil 486 7 st st) (by simpa [Zk2,Ku] using J0.nil 451 7 st st) (fun n h=>by cases h) g4 g5 g8 g9 g10
 rcases id hd with ⟨h3,h4,h5⟩ | ⟨n,off,cp,h3,h2⟩
 all_goals
  rw[h3]at key⊢
  simp[B.Y7,go_sem]
  refine(key _ (by simp[go_sem]) (by simp[go_sem]) (by simp[go_sem]) (by simp[go_sem, *]) (by simp[go_sem])).mono ?_
  rintro x e' s' ⟨rfl,hx,hg,hg'⟩
  simp[go_sem,hg.sc,hg'.sc]
  refine⟨hx.Zi9 (Nat.le_refl _),_,_,⟨rfl,rfl⟩,?_,?_⟩
  ·have r:=(hg.Zb (c:=st.nx) hx.wf).rds
   exact⟨_,Zuo _ l,by simpa [Ig] using r⟩
  ·have r:=(hg'.Zb (c:=st.nx) hx.wf).rds
   unfold RdO
   rw[Zr9]
   exact r
end Go.Ev

/- The law's own helpers told: wakes. Printed by gwl.py. -/
namespace Go.Ev
open Go
variable {T : Tab} {st st' : St}
def InS (s1:St) (M a:Nat) (s:St):Prop:=Ext s1 s∧M≤s.nx∧∀n,a≤n→n<M→Zh s.h n=none
theorem InS.start {s1:St} (hw:s1.Wf) {M:Nat} (h:s1.nx≤M):InS s1 M s1.nx ⟨s1.h,M⟩:=by
 refine⟨(Ext.refl hw).upN h,Nat.le_refl _,fun n h1 h2=> ?_⟩
 cases hg:Zh s1.h n with
 | none=>rfl
 | some o=>exact absurd (hw.lt _ _ hg) (by omega)
theorem InS.call {s1 s s':St} {M a:Nat} (x:InS s1 M a s) (y:Ext s s'):InS s1 M a s':=by
 refine⟨x.1.trans y,Nat.le_trans x.2.1 y.nx,fun n h1 h2=> ?_⟩
 have:=x.2.1
 rw[y.Zd n (by omega)]
 exact x.2.2 n h1 h2
theorem InS.new {s1:St} {h:Heap} {m M a:Nat} (x:InS s1 M a ⟨h,m⟩) (n:Nat) (o:Qb) (h0:s1.nx≤n) (h1:a≤n) (h2:n<M):InS s1 M (n+1) ⟨(n,o)::h,m⟩:=by
 have:=x.2.1
 refine⟨x.1.Zur (x.2.2 n h1 h2) h0 (by simp only at this;omega),this,fun k h3 h4=> ?_⟩
 simp only[Zg]
 rw[if_neg (by omega)]
 exact x.2.2 k (by omega) h4
theorem InS.look {s1 s:St} {M a:Nat} (x:InS s1 M a s):∀n,n<s1.nx→Zh s.h n=Zh s1.h n:=x.1.Zd
def wkS:List (List UInt8):=[[97,98],[98],[49,54,35,102,102],[97,98,99,100,101],[120]]
theorem wk0:Ro (Ig wkS) [101,113] (Qp true) [Jc 1,Uc 65536]=true:=by kernel_rfl
theorem wk1:Ro (Ig wkS) [108,116] (Qp true) [obS 0 [97,98],obS 1 [98]]=true:=by kernel_rfl
theorem wk2:Ro (Ig wkS) [97,110,100] (Jc 8) [Jc 12,Jc 10]=true:=by kernel_rfl
theorem wk3:Ro (Ig wkS) [110,111,116] (Jc (-13)) [Jc 12]=true:=by kernel_rfl
theorem wk4:Ro (Ig wkS) [98,105,116,115,104,105,102,116] (Jc 3) [Jc 7,Jc (-1)]=true:=by kernel_rfl
theorem wk5:Ro (Ig wkS) [99,118,105] (Jc 255) [obS 2 [49,54,35,102,102]]=true:=by kernel_rfl
theorem wk6:Ro (Ig wkS) [99,118,114] (Uc 196608) [Jc 3]=true:=by kernel_rfl
theorem wk7:Ro (Ig wkS) [116,121,112,101] ⟨5,true,0,[110,97,109,101,116,121,112,101],0,0,0⟩ [⟨5,false,0,[120],0,0,0⟩]=true:=by kernel_rfl
theorem wk8:Cj (Ig wkS) [99,118,115] [45,49,50] [Jc (-12),obS 3 [97,98,99,100,101]]=true:=by kernel_rfl
theorem wk9:Cj (Ig wkS) [99,118,114,115] [70,70] [Jc 255,Jc 16,obS 3 [97,98,99,100,101]]=true:=by kernel_rfl
theorem wk10:O7 (Ig wkS) [99,118,105] 22 [obS 4 [120]]=true:=by kernel_rfl
theorem wk11:O7 (Ig wkS) [108,116] 22 [obS 0 [97,98],Jc 1]=true:=by kernel_rfl
set_option maxHeartbeats 4000000 in
theorem Zmi (H:B.Rh T) (hwf:st.Wf) (hpw:Pow st) (hbr:Bru st):Z9 T st (.fn 300 [] []) [] (.bool true):=by
 refine Zm H.e H.f rfl ?_
 have x0:=(Ext.refl hwf).Zf (o:= .cells 9 false (Zaa wkS)) (Nat.lt_succ_self st.nx)
 simp (disch:=omega) [B.Ui,go_sem]
 refine(Zsa H.Y7 x0.wf (l:=wkS) (.inr ⟨_,_,_,rfl,Lu (ty:=9) (l:=false) (by simp[Zg]) rfl⟩) (by decide)).mono ?_
 rintro w s1 ⟨x1,v,u,rfl,hh,ho⟩
 have y1:=x0.trans x1
 have w1:=y1.wf
 have hS:HpS (Ig wkS):=Zaes (by decide) (by decide)
 have hp1:=hpw.ext y1 hwf
 have hb1:=hbr.ext y1 hwf
 obtain⟨n,off,ob,hat⟩:=ho.acc w1
 obtain⟨a1,a2,l0,m0⟩:=hat 0 (obS 0 [97,98]) (by decide) rfl
 simp only[show ((0:Int)).toNat=0 from rfl,Nat.reduceMul,Nat.add_zero]at l0 m0
 obtain⟨a1,a2,l1,m1⟩:=hat 1 (obS 1 [98]) (by decide) rfl
 simp only[show ((1:Int)).toNat=1 from rfl,Nat.reduceMul,Nat.add_zero]at l1 m1
 obtain⟨a1,a2,l2,m2⟩:=hat 2 (obS 2 [49,54,35,102,102]) (by decide) rfl
 simp only[show ((2:Int)).toNat=2 from rfl,Nat.reduceMul,Nat.add_zero]at l2 m2
 obtain⟨a1,a2,l3,m3⟩:=hat 3 (obS 3 [97,98,99,100,101]) (by decide) rfl
 simp only[show ((3:Int)).toNat=3 from rfl,Nat.reduceMul,Nat.add_zero]at l3 m3
 obtain⟨a1,a2,l4,m4⟩:=hat 4 (obS 4 [120]) (by decide) rfl
 simp only[show ((4:Int)).toNat=4 from rfl,Nat.reduceMul,Nat.add_zero]at l4 m4
 clear hat
 simp (disch:=omega) [go_sem,hh.sc,RdS.sc ho]
 obtain⟨M,hM⟩:∃M,s1.nx+108=M:=⟨_,rfl⟩
 rw[hM]
 have i0:=InS.start w1 (M:=M) (by omega)
 refine(Zdi H.Xs i0.1.wf true).use fun q1 e1=> ?_
 have i1:=i0.call e1
 have k1:=i1.look
 simp (disch:=omega) [go_sem,reI,wanted,B.zOb,↓Zp,a2,l0,m0,l1,m1,l2,m2,l3,m3,l4,m4,k1]
 refine(Ke H.Qz i1.1.wf (1)).use fun q2 e2=> ?_
 have i2:=i1.call e2
 have k2:=i2.look
 simp (disch:=omega) [go_sem,reI,wanted,B.zOb,↓Zp,a2,l0,m0,l1,m1,l2,m2,l3,m3,l4,m4,k1,k2]
 refine(Ze3 H.Xt i2.1.wf (65536)).use fun q3 e3=> ?_
 have i3:=i2.call e3
 have k3:=i3.look
 simp (disch:=omega) [go_sem,reI,wanted,B.zOb,↓Zp,a2,l0,m0,l1,m1,l2,m2,l3,m3,l4,m4,k1,k2,k3]
 have i4:=i3.new (s1.nx) (.cells 451 false (Ku [Jc 1,Uc 65536])) (by omega) (by omega) (by omega)
 have t0:=Ue H.Ja i4.1.wf (RdO.made (m:=s1.nx) (ty:=451) (l:=[Jc 1,Uc 65536]) (by simp[Zg]) rfl) (hh.ext i4.1 w1) (by decide) hS (hp1.ext i4.1 w1) (hb1.ext i4.1 w1) [101,113] (Qp true)
 rw[wk0]at t0
 refine(t0).use fun q5 e5=> ?_
 have i5:=i4.call e5
 have k5:=i5.look
 simp (disch:=omega) [go_sem,reI,wanted,B.zOb,↓Zp,a2,l0,m0,l1,m1,l2,m2,l3,m3,l4,m4,k2,k3,k5]
 refine(Zdi H.Xs i5.1.wf true).use fun q6 e6=> ?_
 have i6:=i5.call e6
 have k6:=i6.look
 simp (disch:=omega) [go_sem,reI,wanted,B.zOb,↓Zp,a2,l0,m0,l1,m1,l2,m2,l3,m3,l4,m4,k3,k5,k6]
 have i7:=i6.new (s1.nx+1) (.cells 451 false (Ku [obS 0 [97,98],obS 1 [98]])) (by omega) (by omega) (by omega)
 have t1:=Ue H.Ja i7.1.wf (RdO.made (m:=s1.nx+1) (ty:=451) (l:=[obS 0 [97,98],obS 1 [98]]) (by simp[Zg]) rfl) (hh.ext i7.1 w1) (by decide) hS (hp1.ext i7.1 w1) (hb1.ext i7.1 w1) [108,116] (Qp true)
 rw[wk1]at t1
 refine(t1).use fun q8 e8=> ?_
 have i8:=i7.call e8
 have k8:=i8.look
 simp (disch:=omega) [go_sem,reI,wanted,B.zOb,↓Zp,a2,l0,m0,l1,m1,l2,m2,l3,m3,l4,m4,k5,k6,k8]
 refine(Ke H.Qz i8.1.wf (8)).use fun q9 e9=> ?_
 have i9:=i8.call e9
 have k9:=i9.look
 simp (disch:=omega) [go_sem,reI,wanted,B.zOb,↓Zp,a2,l0,m0,l1,m1,l2,m2,l3,m3,l4,m4,k6,k8,k9]
 refine(Ke H.Qz i9.1.wf (12)).use fun q10 e10=> ?_
 have i10:=i9.call e10
 have k10:=i10.look
 simp (disch:=omega) [go_sem,reI,wanted,B.zOb,↓Zp,a2,l0,m0,l1,m1,l2,m2,l3,m3,l4,m4,k8,k9,k10]
 refine(Ke H.Qz i10.1.wf (10)).use fun q11 e11=> ?_
 have i11:=i10.call e11
 have k11:=i11.look
 simp (disch:=omega) [go_sem,reI,wanted,B.zOb,↓Zp,a2,l0,m0,l1,m1,l2,m2,l3,m3,l4,m4,k9,k10,k11]
 have i12:=i11.new (s1.nx+2) (.cells 451 false (Ku [Jc 12,Jc 10])) (by omega) (by omega) (by omega)
 have t2:=Ue H.Ja i12.1.wf (RdO.made (m:=s1.nx+2) (ty:=451) (l:=[Jc 12,Jc 10]) (by simp[Zg]) rfl) (hh.ext i12.1 w1) (by decide) hS (hp1.ext i12.1 w1) (hb1.ext i12.1 w1) [97,110,100] (Jc 8)
 rw[wk2]at t2
 refine(t2).use fun q13 e13=> ?_
 have i13:=i12.call e13
 have k13:=i13.look
 simp (disch:=omega) [go_sem,reI,wanted,B.zOb,↓Zp,a2,l0,m0,l1,m1,l2,m2,l3,m3,l4,m4,k10,k11,k13]
 refine(Ke H.Qz i13.1.wf (-13)).use fun q14 e14=> ?_
 have i14:=i13.call e14
 have k14:=i14.look
 simp (disch:=omega) [go_sem,reI,wanted,B.zOb,↓Zp,a2,l0,m0,l1,m1,l2,m2,l3,m3,l4,m4,k11,k13,k14]
 refine(Ke H.Qz i14.1.wf (12)).use fun q15 e15=> ?_
 have i15:=i14.call e15
 have k15:=i15.look
 simp (disch:=omega) [go_sem,reI,wanted,B.zOb,↓Zp,a2,l0,m0,l1,m1,l2,m2,l3,m3,l4,m4,k13,k14,k15]
 have i16:=i15.new (s1.nx+3) (.cells 451 false (Ku [Jc 12])) (by omega) (by omega) (by omega)
 have t3:=Ue H.Ja i16.1.wf (RdO.made (m:=s1.nx+3) (ty:=451) (l:=[Jc 12]) (by simp[Zg]) rfl) (hh.ext i16.1 w1) (by decide) hS (hp1.ext i16.1 w1) (hb1.ext i16.1 w1) [110,111,116] (Jc (-13))
 rw[wk3]at t3
 refine(t3).use fun q17 e17=> ?_
 have i17:=i16.call e17
 have k17:=i17.look
 simp (disch:=omega) [go_sem,reI,wanted,B.zOb,↓Zp,a2,l0,m0,l1,m1,l2,m2,l3,m3,l4,m4,k14,k15,k17]
 refine(Ke H.Qz i17.1.wf (3)).use fun q18 e18=> ?_
 have i18:=i17.call e18
 have k18:=i18.look
 simp (disch:=omega) [go_sem,reI,wanted,B.zOb,↓Zp,a2,l0,m0,l1,m1,l2,m2,l3,m3,l4,m4,k15,k17,k18]
 refine(Ke H.Qz i18.1.wf (7)).use fun q19 e19=> ?_
 have i19:=i18.call e19
 have k19:=i19.look
 simp (disch:=omega) [go_sem,reI,wanted,B.zOb,↓Zp,a2,l0,m0,l1,m1,l2,m2,l3,m3,l4,m4,k17,k18,k19]
 refine(Ke H.Qz i19.1.wf (-1)).use fun q20 e20=> ?_
 have i20:=i19.call e20
 have k20:=i20.look
 simp (disch:=omega) [go_sem,reI,wanted,B.zOb,↓Zp,a2,l0,m0,l1,m1,l2,m2,l3,m3,l4,m4,k18,k19,k20]
 have i21:=i20.new (s1.nx+4) (.cells 451 false (Ku [Jc 7,Jc (-1)])) (by omega) (by omega) (by omega)
 have t4:=Ue H.Ja i21.1.wf (RdO.made (m:=s1.nx+4) (ty:=451) (l:=[Jc 7,Jc (-1)]) (by simp[Zg]) rfl) (hh.ext i21.1 w1) (by decide) hS (hp1.ext i21.1 w1) (hb1.ext i21.1 w1) [98,105,116,115,104,105,102,116] (Jc 3)
 rw[wk4]at t4
 refine(t4).use fun q22 e22=> ?_
 have i22:=i21.call e22
 have k22:=i22.look
 simp (disch:=omega) [go_sem,reI,wanted,B.zOb,↓Zp,a2,l0,m0,l1,m1,l2,m2,l3,m3,l4,m4,k19,k20,k22]
 refine(Ke H.Qz i22.1.wf (255)).use fun q23 e23=> ?_
 have i23:=i22.call e23
 have k23:=i23.look
 simp (disch:=omega) [go_sem,reI,wanted,B.zOb,↓Zp,a2,l0,m0,l1,m1,l2,m2,l3,m3,l4,m4,k20,k22,k23]
 have i24:=i23.new (s1.nx+5) (.cells 451 false (Ku [obS 2 [49,54,35,102,102]])) (by omega) (by omega) (by omega)
 have t5:=Ue H.Ja i24.1.wf (RdO.made (m:=s1.nx+5) (ty:=451) (l:=[obS 2 [49,54,35,102,102]]) (by simp[Zg]) rfl) (hh.ext i24.1 w1) (by decide) hS (hp1.ext i24.1 w1) (hb1.ext i24.1 w1) [99,118,105] (Jc 255)
 rw[wk5]at t5
 refine(t5).use fun q25 e25=> ?_
 have i25:=i24.call e25
 have k25:=i25.look
 simp (disch:=omega) [go_sem,reI,wanted,B.zOb,↓Zp,a2,l0,m0,l1,m1,l2,m2,l3,m3,l4,m4,k22,k23,k25]
 refine(Ze3 H.Xt i25.1.wf (196608)).use fun q26 e26=> ?_
 have i26:=i25.call e26
 have k26:=i26.look
 simp (disch:=omega) [go_sem,reI,wanted,B.zOb,↓Zp,a2,l0,m0,l1,m1,l2,m2,l3,m3,l4,m4,k23,k25,k26]
 refine(Ke H.Qz i26.1.wf (3)).use fun q27 e27=> ?_
 have i27:=i26.call e27
 have k27:=i27.look
 simp (disch:=omega) [go_sem,reI,wanted,B.zOb,↓Zp,a2,l0,m0,l1,m1,l2,m2,l3,m3,l4,m4,k25,k26,k27]
 have i28:=i27.new (s1.nx+6) (.cells 451 false (Ku [Jc 3])) (by omega) (by omega) (by omega)
 have t6:=Ue H.Ja i28.1.wf (RdO.made (m:=s1.nx+6) (ty:=451) (l:=[Jc 3]) (by simp[Zg]) rfl) (hh.ext i28.1 w1) (by decide) hS (hp1.ext i28.1 w1) (hb1.ext i28.1 w1) [99,118,114] (Uc 196608)
 rw[wk6]at t6
 refine(t6).use fun q29 e29=> ?_
 have i29:=i28.call e29
 have k29:=i29.look
 simp (disch:=omega) [go_sem,reI,wanted,B.zOb,↓Zp,a2,l0,m0,l1,m1,l2,m2,l3,m3,l4,m4,k26,k27,k29]
 have i30:=i29.new (s1.nx+7) (.cells 451 false (Ku [⟨5,false,0,[120],0,0,0⟩])) (by omega) (by omega) (by omega)
 have t7:=Ue H.Ja i30.1.wf (RdO.made (m:=s1.nx+7) (ty:=451) (l:=[⟨5,false,0,[120],0,0,0⟩]) (by simp[Zg]) rfl) (hh.ext i30.1 w1) (by decide) hS (hp1.ext i30.1 w1) (hb1.ext i30.1 w1) [116,121,112,101] ⟨5,true,0,[110,97,109,101,116,121,112,101],0,0,0⟩
 rw[wk7]at t7
 refine(t7).use fun q31 e31=> ?_
 have i31:=i30.call e31
 have k31:=i31.look
 simp (disch:=omega) [go_sem,reI,wanted,B.zOb,↓Zp,a2,l0,m0,l1,m1,l2,m2,l3,m3,l4,m4,k27,k29,k31]
 refine(Ke H.Qz i31.1.wf (-12)).use fun q32 e32=> ?_
 have i32:=i31.call e32
 have k32:=i32.look
 simp (disch:=omega) [go_sem,reI,wanted,B.zOb,↓Zp,a2,l0,m0,l1,m1,l2,m2,l3,m3,l4,m4,k29,k31,k32]
 have i33:=i32.new (s1.nx+8) (.cells 451 false (Ku [Jc (-12),obS 3 [97,98,99,100,101]])) (by omega) (by omega) (by omega)
 have t8:=Zae H.Yi i33.1.wf (RdO.made (m:=s1.nx+8) (ty:=451) (l:=[Jc (-12),obS 3 [97,98,99,100,101]]) (by simp[Zg]) rfl) (hh.ext i33.1 w1) (by decide) (by simp) hS (hp1.ext i33.1 w1) (hb1.ext i33.1 w1) [99,118,115] [45,49,50]
 rw[wk8]at t8
 refine(t8).use fun q34 e34=> ?_
 have i34:=i33.call e34
 have k34:=i34.look
 simp (disch:=omega) [go_sem,reI,wanted,B.zOb,↓Zp,a2,l0,m0,l1,m1,l2,m2,l3,m3,l4,m4,k31,k32,k34]
 refine(Ke H.Qz i34.1.wf (255)).use fun q35 e35=> ?_
 have i35:=i34.call e35
 have k35:=i35.look
 simp (disch:=omega) [go_sem,reI,wanted,B.zOb,↓Zp,a2,l0,m0,l1,m1,l2,m2,l3,m3,l4,m4,k32,k34,k35]
 refine(Ke H.Qz i35.1.wf (16)).use fun q36 e36=> ?_
 have i36:=i35.call e36
 have k36:=i36.look
 simp (disch:=omega) [go_sem,reI,wanted,B.zOb,↓Zp,a2,l0,m0,l1,m1,l2,m2,l3,m3,l4,m4,k34,k35,k36]
 have i37:=i36.new (s1.nx+9) (.cells 451 false (Ku [Jc 255,Jc 16,obS 3 [97,98,99,100,101]])) (by omega) (by omega) (by omega)
 have t9:=Zae H.Yi i37.1.wf (RdO.made (m:=s1.nx+9) (ty:=451) (l:=[Jc 255,Jc 16,obS 3 [97,98,99,100,101]]) (by simp[Zg]) rfl) (hh.ext i37.1 w1) (by decide) (by simp) hS (hp1.ext i37.1 w1) (hb1.ext i37.1 w1) [99,118,114,115] [70,70]
 rw[wk9]at t9
 refine(t9).use fun q38 e38=> ?_
 have i38:=i37.call e38
 have k38:=i38.look
 simp (disch:=omega) [go_sem,reI,wanted,B.zOb,↓Zp,a2,l0,m0,l1,m1,l2,m2,l3,m3,l4,m4,k35,k36,k38]
 have i39:=i38.new (s1.nx+10) (.cells 451 false (Ku [obS 4 [120]])) (by omega) (by omega) (by omega)
 have t10:=Zbx H.Y6 i39.1.wf (RdO.made (m:=s1.nx+10) (ty:=451) (l:=[obS 4 [120]]) (by simp[Zg]) rfl) (hh.ext i39.1 w1) (by decide) (by decide) (Zza _) hS (hp1.ext i39.1 w1) (hb1.ext i39.1 w1) [99,118,105] 22 (by decide)
 rw[wk10]at t10
 refine(t10).use fun q40 e40=> ?_
 have i40:=i39.call e40
 have k40:=i40.look
 simp (disch:=omega) [go_sem,reI,wanted,B.zOb,↓Zp,a2,l0,m0,l1,m1,l2,m2,l3,m3,l4,m4,k36,k38,k40]
 refine(Ke H.Qz i40.1.wf (1)).use fun q41 e41=> ?_
 have i41:=i40.call e41
 have k41:=i41.look
 simp (disch:=omega) [go_sem,reI,wanted,B.zOb,↓Zp,a2,l0,m0,l1,m1,l2,m2,l3,m3,l4,m4,k38,k40,k41]
 have i42:=i41.new (s1.nx+11) (.cells 451 false (Ku [obS 0 [97,98],Jc 1])) (by omega) (by omega) (by omega)
 have t11:=Zbx H.Y6 i42.1.wf (RdO.made (m:=s1.nx+11) (ty:=451) (l:=[obS 0 [97,98],Jc 1]) (by simp[Zg]) rfl) (hh.ext i42.1 w1) (by decide) (by decide) (Zza _) hS (hp1.ext i42.1 w1) (hb1.ext i42.1 w1) [108,116] 22 (by decide)
 rw[wk11]at t11
 refine(t11).use fun q43 e43=> ?_
 have i43:=i42.call e43
 have k43:=i43.look
 simp (disch:=omega) [go_sem,reI,wanted,B.zOb,↓Zp,a2,l0,m0,l1,m1,l2,m2,l3,m3,l4,m4,k40,k41,k43]
 exact y1.trans i43.1
end Go.Ev

/- Plain law: bits. -/
namespace Go.Ev
open Go
theorem Zpc {hp h':List Ce} {ops:List Ob} {op:List UInt8} {o:Ob} (h:doR ops hp op=(0,[o],h')):Ie hp ops op=(o,true):=by
 unfold Ie
 rw[h]
 rfl
end Go.Ev

/- Drafts of states told: which cell is meant. -/
namespace Go.Ev
open Go
variable {T : Tab} {st st' : St}
def idxs:Nat→List Ce→Int→List Int
 | _,[],_=>[]
 | i,c::r,k=>if c.k=k then(i:Int)::idxs (i+1) r k else idxs (i+1) r k
theorem Zmv:∀(i:Nat) (l:List Ce) (c:Ce) (k:Int),idxs i (l++[c]) k=idxs i l k++(if c.k=k then [((i+l.length:Nat):Int)]else [])
 | i,[],c,k=>by simp[idxs]
 | i,d::l,c,k=>by
   simp only[List.cons_append,idxs,Zmv (i+1) l c k,List.length_cons]
   rw[show i+1+l.length=i+(l.length+1)by omega]
   by_cases h:d.k=k <;> simp[h]
theorem Zqy:∀(i:Nat) (l:List Ce) (k:Int),(idxs i l k).length≤l.length
 | _,[],_=>by simp[idxs]
 | i,c::l,k=>by
   have:=Zqy (i+1) l k
   simp only[idxs]
   split <;> simp <;> omega
theorem Zoe:∀(i:Nat) (l:List Ce) (k n:Int),n∈idxs i l k→∃j c,l[j]? =some c∧c.k=k∧n=((i+j:Nat):Int)
 | i,[],k,n,h=>by cases h
 | i,c::l,k,n,h=>by
   simp only[idxs]at h
   split at h
   ·rename_i hk
    rcases List.mem_cons.1 h with h | h
    ·exact⟨0,c,rfl,hk,h⟩
    ·obtain⟨j,d,h1,h2,h3⟩:=Zoe (i+1) l k n h
     exact⟨j+1,d,by simpa using h1,h2,by rw[h3];congr 1;omega⟩
   ·obtain⟨j,d,h1,h2,h3⟩:=Zoe (i+1) l k n h
    exact⟨j+1,d,by simpa using h1,h2,by rw[h3];congr 1;omega⟩
def Ze0 (hp:List Ce) (k:Int) (n:Nat):Int:=if idxs 0 hp k=[]then -1 else(idxs 0 hp k).getD (n % (idxs 0 hp k).length) 0
theorem Zabb {st0:St} (hw0:st0.Wf) {v0:AV} {hp:List Ce} (hd0:HpR st0.h v0 hp) (hl:hp.length<1000000) (k:Int) (n:Nat):∀(m i:Nat) (v:AV) (e:Env) (st1:St),i+m=hp.length→Ext st0 st1→J0 3 1 st0 st1 v (idxs 0 (hp.take i) k).length (Nw (idxs 0 (hp.take i) k))→Zl e 0=v0→Zl e 1= .int .i64 k→Zl e 2= .int .i64 n→Zl e 7=v→Zl e 8= .int .i64 (i:Int)→
  Res (run T (.loop B.Ur) e st1) fun x e' s'=>x= .exit 0∧Ext st0 s'∧J0 3 1 st0 s' (Zl e' 7) (idxs 0 hp k).length (Nw (idxs 0 hp k))∧Zl e' 2= .int .i64 n:=by
 intro m
 induction m with
 | zero=>
   intro i v e st1 hi hx hg g0 g1 g2 g7 g8
   have hil:i=hp.length:=by omega
   subst hil
   rw[List.take_length]at hg
   have hlv:=(hd0.ext hx hw0).Y0
   rw[Zs]
   simp[B.Ur,go_sem,↓Qy,hlv,g0,g1,g2,g7,g8,hx,hg]
 | succ m ih=>
   intro i v e st1 hi hx hg g0 g1 g2 g7 g8
   have hil:i<hp.length:=by omega
   have hd:=hd0.ext hx hw0
   have hlv:=hd.Y0
   obtain⟨c,hc⟩:∃c,hp[i]? =some c:=⟨_,List.getElem?_eq_getElem hil⟩
   have h1:(i:Int)<hp.length:=by omega
   have ek:IntKind.i64.wrap ((i:Int)+1)=((i+1:Nat):Int):=Zo (by omega) (by omega)
   have hsn:hp.take (i+1)=hp.take i++[c]:=by rw[List.take_add_one,hc];rfl
   have hsi:idxs 0 (hp.take (i+1)) k=idxs 0 (hp.take i) k++(if c.k=k then [(i:Int)]else []):=by
    rw[hsn,Zmv,List.length_take,Nat.min_eq_left (by omega),Nat.zero_add]
   have hln:(idxs 0 (hp.take i) k).length<1000000000:=by
    have:=Zqy 0 (hp.take i) k
    rw[List.length_take]at this
    omega
   obtain⟨n',off,ob,hat⟩:=hd.acc hx.wf
   obtain⟨a1,a2,a3,X,a4,a5⟩:=hat i c (by omega) (by simpa using hc)
   simp only[Int.toNat_natCast]at a3 a4
   obtain⟨p,q,r,rfl,_⟩:=a5.row
   have a6:=Jg a4 (i:=0) (by omega)
   simp only[List.getElem?_cons_zero,Nat.add_zero]at a6
   have ih2:=fun v' e' s'=>ih (i+1) v' e' s' (by omega)
   rw[hsi]at ih2
   rw[Zs]
   by_cases hck:c.k=k
   ·rw[if_pos hck]at ih2
    simp (disch:=omega) [B.Ur,go_sem,↓Qy,↓Zp,hlv,g0,g1,g2,g7,g8,h1,a2,a3,a6,eq_true hck,hg.sc]
    refine(hg.push (b:=8) hx.nx hx.wf (j:=1) (by omega) hln (by omega) rfl rfl).mono ?_
    rintro v2 s2 ⟨o2,f2,q2⟩
    have y2:=hx.Ma f2 hg.ge
    simp (disch:=omega) [go_sem,o2.sc]
    exact ih2 v2 _ s2 y2 (by simpa [Nw] using o2) (by simp[go_sem]) (by simp[go_sem]) (by simp[go_sem]) (by simp[go_sem]) (by simp[go_sem,ek])
   ·rw[if_neg hck,List.append_nil]at ih2
    simp (disch:=omega) [B.Ur,go_sem,↓Qy,↓Zp,hlv,g0,g1,g2,g7,g8,h1,a2,a3,a6,hck,hg.sc]
    exact ih2 v _ st1 hx hg (by simp[go_sem]) (by simp[go_sem]) (by simp[go_sem]) (by simp[go_sem]) (by simp[go_sem,ek])
theorem Ztz (H:B.Ge T) (hwf:st.Wf) {v0:AV} {hp:List Ce} (hd:HpR st.h v0 hp) (hl:hp.length<1000000) (k:Int) (n:Nat) (hn:n<1000000):Z9 T st (.fn 375 [] []) [v0,.int .i64 k,.int .i64 n] (.int .i64 (Ze0 hp k n)):=by
 refine Zm H.e H.f rfl ?_
 simp (disch:=omega) [B.U8,go_sem,hd.sc]
 refine(Zabb hwf hd hl k n hp.length 0 .Zc _ st (by omega) (.refl hwf) (by simpa [idxs,Nw] using J0.nil 3 1 st st) (by simp[go_sem]) (by simp[go_sem]) (by simp[go_sem]) (by simp[go_sem]) (by simp[go_sem])).mono ?_
 rintro x e' s' ⟨rfl,hx,hg,g2⟩
 have hrd:=hg.rds
 have hlv:=hrd.Y0
 unfold Ze0
 generalize hL:idxs 0 hp k=L at*
 by_cases h0:L=[]
 ·subst h0
  simp (disch:=omega) [go_sem,↓Qy,hlv,hg.sc,g2]
  exact hx
 ·have hpos:0<L.length:=List.length_pos_iff.2 h0
  rw[if_neg h0]
  have hl0:¬((L.length:Nat):Int)=0:=by omega
  have hmod:n % L.length<L.length:=Nat.mod_lt _ hpos
  obtain⟨j,hj⟩:∃j,n % L.length=j:=⟨_,rfl⟩
  have hr:((n:Int)).tmod (L.length:Int)=(j:Int):=by rw[Int.tmod_eq_emod_of_nonneg (by omega),←hj];rfl
  obtain⟨y,hy⟩:∃y,L[j]? =some y:=⟨_,List.getElem?_eq_getElem (by omega)⟩
  rcases RdS.form hrd hx.wf with ⟨_,h2,_⟩ | ⟨m,off,cp,ob,h1,h2,h3,h4,h5,h6⟩
  ·omega
  ·have h7:=Jg h6 (i:=j) (by omega)
   rw[show (Nw L)[j]? =some (.int .i64 y)by simp[Nw,hy]]at h7
   rw[hj,show L.getD j 0=y by rw[List.getD_eq_getElem?_getD,hy];rfl]
   have hj2:(j:Int)<L.length:=by omega
   simp (disch:=omega) [go_sem,↓Qy,↓Zp,hlv,hg.sc,g2,h0,hl0,hr]
   rw[h1]
   simp (disch:=omega) [go_sem,↓Qy,↓Zp,Pq,hj2,h4,h7]
   exact hx
end Go.Ev
