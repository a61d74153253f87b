/- Numbers written in a base. -/
import Derived.Test.YtdlhjfmakdbmkaaGreatDoorP08
import Derived.Test.YtdlhjfmakdbmkaaGreatDoorP06
import Derived.Lib.Join
set_option linter.unusedSimpArgs false
set_option linter.unusedVariables false
set_option linter.unusedSectionVars false
namespace Go.Ev
open Go
variable {T : Tab} {st st' : St}
def deB64:List AV:=([0,1,56,2,57,49,28,3,61,58,42,50,38,29,17,4,62,47,59,36,45,43,51,22,53,39,33,30,24,18,12,5,63,55,48,27,60,41,37,16,46,35,44,21,52,32,23,11,54,26,40,15,34,20,31,10,25,14,19,9,13,8,7,6]:List Int).map fun n=> .int .u8 n
def Bru (st:St):Prop:=hget st.h 6=some (.glob 6 deB64)
theorem Bru.ext {s:St} (h:Bru st) (x:Ext st s) (hw:st.Wf):Bru s:=x.get hw h
def digC (d:Nat):UInt8:=if d<10 then UInt8.ofNat (48+d)else UInt8.ofNat (87+d)
def digTab:List UInt8:=[48,49,50,51,52,53,54,55,56,57,97,98,99,100,101,102,103,104,105,106,107,108,109,110,111,112,113,114,115,116,117,118,119,120,121,122]
theorem digTab_at:∀d,d<36→digTab[d]? =some (digC d):=by decide
def fmtB (b:Nat):Nat→Nat→List UInt8
 | 0,u=>[digC u]
 | k+1,u=>if u<b then [digC u]else fmtB b k (u / b)++[digC (u % b)]
theorem fmt_step {W:List AV} {i:Nat} {acc:List UInt8} {c:UInt8} (hW:W.length=65) (hi:i<65) (hd:W.drop (i+1)=u8s acc):(W.set i (.int .u8 c.toNat)).drop i=u8s (c::acc):=by
 rw[List.drop_eq_getElem_cons (by simp[hW];omega),List.getElem_set_self,List.drop_set_of_lt (by omega),hd]
 rfl
theorem fmt_l1 (b:Nat) (hb:2≤b) (hb2:b≤36) {pn:Nat}:∀(m u i:Nat) (acc:List UInt8) (W:List AV) (e:Env) (s:St),u<2 ^ m→i+acc.length=65→m+1≤i→m≤33→s.Wf→hget s.h pn=some (.cells 246 false W)→W.length=65→W.drop i=u8s acc→eget e 0= .nilslice→eget e 1= .int .u64 u→eget e 3= .bool false→eget e 4= .bool false→eget e 10= .nilslice→eget e 12= .ptr pn 0→eget e 13= .int .i64 i→eget e 17= .int .u64 b→
  Res (run T (.loop B.strconv_formatBits_l1) e s) fun q e' s'=>q= .exit 2∧Frm [pn] s s'∧∃(u' i':Nat) (acc':List UInt8) (W':List AV),u'<b∧i'+acc'.length=65∧1≤i'∧hget s'.h pn=some (.cells 246 false W')∧W'.length=65∧W'.drop i'=u8s acc'∧eget e' 0= .nilslice∧eget e' 10= .nilslice∧eget e' 1= .int .u64 u'∧eget e' 3= .bool false∧eget e' 4= .bool false∧eget e' 12= .ptr pn 0∧eget e' 13= .int .i64 i'∧digC u'::acc'=fmtB b m u++acc:=by
 intro m
 induction m with
 | zero=>
   intro u i acc W e s hu hia hmi hm33 hwf hg hW hd g0 g1 g3 g4 g10 g12 g13 g17
   have hu0:u=0:=by simpa using hu
   have h1:¬(b:Int)≤u:=by omega
   rw[run_loop]
   simp (disch:=omega) [B.strconv_formatBits_l1,go_sem,g0,g1,g3,g4,g10,g12,g13,g17,h1]
   exact⟨Frm.refl hwf _,u,by omega,i,acc,by omega,by omega,W,hg,hW,hd,rfl,rfl,rfl⟩
 | succ m ih=>
   intro u i acc W e s hu hia hmi hm33 hwf hg hW hd g0 g1 g3 g4 g10 g12 g13 g17
   rw[run_loop]
   by_cases h1:u<b
   ·have h1':¬(b:Int)≤u:=by omega
    simp (disch:=omega) [B.strconv_formatBits_l1,go_sem,g0,g1,g3,g4,g10,g12,g13,g17,h1']
    refine⟨Frm.refl hwf _,u,by omega,i,acc,by omega,by omega,W,hg,hW,hd,rfl,rfl,?_⟩
    rw[fmtB,if_pos h1];rfl
   ·have h1':(b:Int)≤u:=by omega
    obtain⟨j,rfl⟩:∃j,i=j+1:=⟨i - 1,by omega⟩
    have hu32:u<2 ^ 33:=Nat.lt_of_lt_of_le hu (Nat.pow_le_pow_right (by omega) (by omega))
    obtain⟨qv,rv,hqv,hrv,hqr,hrb,hqu,hq⟩:∃qv rv,u / b=qv∧u % b=rv∧qv*b+rv=u∧rv<b∧qv≤u∧((u:Int).tdiv (b:Int))=(qv:Int):=
     ⟨u / b,u % b,rfl,rfl,Nat.div_add_mod' u b,Nat.mod_lt _ (by omega),Nat.div_le_self _ _,by rw[Int.tdiv_eq_ediv_of_nonneg (by omega)];simp⟩
    have w1:IntKind.u64.wrap (qv:Int)=(qv:Int):=wrapu64 (by omega) (by omega)
    have hqb:(qv:Int)*(b:Int)=((qv*b:Nat):Int):=by simp
    have w2:IntKind.u64.wrap ((qv:Int)*(b:Int))=(qv:Int)*(b:Int):=by rw[hqb];exact wrapu64 (by omega) (by omega)
    have w3:IntKind.u64.wrap ((u:Int) - (qv:Int)*(b:Int))=(rv:Int):=by rw[hqb,wrapu64 (by omega) (by omega)];omega
    have w4:IntKind.i64.wrap (((j+1:Nat):Int) - 1)=(j:Int):=by rw[wrap64' (by omega) (by omega)];omega
    have hdig:=digTab_at rv (by omega)
    simp only[digTab]at hdig
    have b0:¬b=0:=by omega
    have j65:(j:Int)<65:=by omega
    have j64:j≤64:=by omega
    simp (disch:=omega) [B.strconv_formatBits_l1,go_sem,g0,g1,g3,g4,g10,g12,g13,g17,h1',hq,w1,w2,w3,w4,hdig,b0,hg,hW,j65,j64]
    have hf:Frm [pn] s ⟨hset s.h pn (.cells 246 false (W.set j (.int .u8 (digC rv).toNat))),s.nx⟩:=Frm.set hwf hg
    have hq2:qv<2 ^ m:=by
     have:qv*2≤qv*b:=Nat.mul_le_mul_left _ hb
     rw[Nat.pow_succ]at hu
     omega
    refine(ih qv j (digC rv::acc) (W.set j (.int .u8 (digC rv).toNat)) _ _ hq2 (by simp only[List.length_cons];omega) (by omega) (by omega) hf.wf (by simp[hget_hset',hg]) (by simp[hW]) (fmt_step hW (by omega) hd) (by simp[go_sem]) (by simp[go_sem]) (by simp[go_sem]) (by simp[go_sem]) (by simp[go_sem,g10]) (by simp[go_sem]) (by simp[go_sem]) (by simp[go_sem])).mono ?_
    rintro q e' s' ⟨rfl,hf2,u',i',acc',W',f1,f2,f3,f4,f5,f6,f7,f77,f8,f9,f10,f11,f12,f13⟩
    refine⟨rfl,hf.trans hf2 (fun n h=> .inl h),u',f1,i',acc',f2,f3,W',f4,f5,f6,f7,f77,f8,f9,f10,f11,f12,?_⟩
    rw[f13,fmtB,if_neg h1,hqv,hrv]
    simp
theorem iand_u64 {a b:Nat} (ha:a<18446744073709551616) (hb:b<18446744073709551616):iand .u64 (a:Int) (b:Int)=((a &&& b:Nat):Int):=by
 unfold iand
 have h1:(BitVec.ofInt IntKind.u64.bits (a:Int) &&& BitVec.ofInt IntKind.u64.bits (b:Int)).toNat=a &&& b:=by
  rw[ofInt_ofNat,ofInt_ofNat]
  show (BitVec.ofNat 64 a &&& BitVec.ofNat 64 b).toNat=_
  rw[BitVec.toNat_and,BitVec.toNat_ofNat,BitVec.toNat_ofNat,Nat.mod_eq_of_lt (show a<2 ^ 64 by omega),Nat.mod_eq_of_lt (show b<2 ^ 64 by omega)]
 have:a &&& b≤a:=Nat.and_le_left
 rw[h1,wrapu64 (by omega) (by omega)]
theorem fmt_l0 (b sh:Nat) (hs:b=2 ^ sh) (hs1:1≤sh) (hs5:sh≤5) {pn:Nat}:∀(m u i:Nat) (acc:List UInt8) (W:List AV) (e:Env) (s:St),u<2 ^ m→i+acc.length=65→m+1≤i→m≤33→s.Wf→hget s.h pn=some (.cells 246 false W)→W.length=65→W.drop i=u8s acc→eget e 0= .nilslice→eget e 1= .int .u64 u→eget e 3= .bool false→eget e 4= .bool false→eget e 10= .nilslice→eget e 11= .str []→eget e 12= .ptr pn 0→eget e 13= .int .i64 i→eget e 14= .int .u64 sh→eget e 15= .int .u64 b→eget e 16= .int .u64 ((b - 1:Nat):Int)→
  Res (run T (.loop B.strconv_formatBits_l0) e s) fun q e' s'=>q= .exit 0∧Frm [pn] s s'∧∃(u' i':Nat) (acc':List UInt8) (W':List AV),u'<b∧i'+acc'.length=65∧1≤i'∧hget s'.h pn=some (.cells 246 false W')∧W'.length=65∧W'.drop i'=u8s acc'∧eget e' 0= .nilslice∧eget e' 10= .nilslice∧eget e' 1= .int .u64 u'∧eget e' 3= .bool false∧eget e' 4= .bool false∧eget e' 12= .ptr pn 0∧eget e' 13= .int .i64 i'∧digC u'::acc'=fmtB b m u++acc:=by
 have hb2:2≤b∧b≤32:=by
  subst hs
  have h1:2 ^ 1≤2 ^ sh:=Nat.pow_le_pow_right (by omega) hs1
  have h2:2 ^ sh≤2 ^ 5:=Nat.pow_le_pow_right (by omega) hs5
  omega
 intro m
 induction m with
 | zero=>
   intro u i acc W e s hu hia hmi hm33 hwf hg hW hd g0 g1 g3 g4 g10 g11 g12 g13 g14 g15 g16
   have hu0:u=0:=by simpa using hu
   have h1:¬(b:Int)≤u:=by omega
   rw[run_loop]
   simp (disch:=omega) [B.strconv_formatBits_l0,go_sem,g0,g1,g3,g4,g10,g12,g13,g14,g15,g16,h1]
   exact⟨Frm.refl hwf _,u,by omega,i,acc,by omega,by omega,W,hg,hW,hd,rfl,rfl,rfl⟩
 | succ m ih=>
   intro u i acc W e s hu hia hmi hm33 hwf hg hW hd g0 g1 g3 g4 g10 g11 g12 g13 g14 g15 g16
   rw[run_loop]
   by_cases h1:u<b
   ·have h1':¬(b:Int)≤u:=by omega
    simp (disch:=omega) [B.strconv_formatBits_l0,go_sem,g0,g1,g3,g4,g10,g12,g13,g14,g15,g16,h1']
    refine⟨Frm.refl hwf _,u,by omega,i,acc,by omega,by omega,W,hg,hW,hd,rfl,rfl,?_⟩
    rw[fmtB,if_pos h1];rfl
   ·have h1':(b:Int)≤u:=by omega
    obtain⟨j,rfl⟩:∃j,i=j+1:=⟨i - 1,by omega⟩
    have hu32:u<2 ^ 33:=Nat.lt_of_lt_of_le hu (Nat.pow_le_pow_right (by omega) (by omega))
    obtain⟨qv,rv,hqv,hrv,hqr,hrb,hqu⟩:∃qv rv,u / b=qv∧u % b=rv∧qv*b+rv=u∧rv<b∧qv≤u:=
     ⟨u / b,u % b,rfl,rfl,Nat.div_add_mod' u b,Nat.mod_lt _ (by omega),Nat.div_le_self _ _⟩
    have w1:iand .u64 (u:Int) ((b - 1:Nat):Int)=(rv:Int):=by
     rw[iand_u64 (by omega) (by omega),hs,Nat.and_two_pow_sub_one_eq_mod,←hs,hrv]
    have w2:ishr .u64 (u:Int) (sh:Int)=(qv:Int):=by rw[ishr_u64 (by omega),←hs,hqv]
    have w4:IntKind.i64.wrap (((j+1:Nat):Int) - 1)=(j:Int):=by rw[wrap64' (by omega) (by omega)];omega
    have hdig:=digTab_at rv (by omega)
    simp only[digTab]at hdig
    have b0:¬b=0:=by omega
    have j65:(j:Int)<65:=by omega
    have j64:j≤64:=by omega
    have sh0:¬(sh:Int)<0:=by omega
    simp (disch:=omega) [B.strconv_formatBits_l0,go_sem,g0,g1,g3,g4,g10,g12,g13,g14,g15,g16,h1',w1,w2,w4,hdig,b0,hg,hW,j65,j64,sh0]
    have hf:Frm [pn] s ⟨hset s.h pn (.cells 246 false (W.set j (.int .u8 (digC rv).toNat))),s.nx⟩:=Frm.set hwf hg
    have hq2:qv<2 ^ m:=by
     have:qv*2≤qv*b:=Nat.mul_le_mul_left _ hb2.1
     rw[Nat.pow_succ]at hu
     omega
    refine(ih qv j (digC rv::acc) (W.set j (.int .u8 (digC rv).toNat)) _ _ hq2 (by simp only[List.length_cons];omega) (by omega) (by omega) hf.wf (by simp[hget_hset',hg]) (by simp[hW]) (fmt_step hW (by omega) hd) (by simp[go_sem]) (by simp[go_sem]) (by simp[go_sem]) (by simp[go_sem]) (by simp[go_sem,g10]) (by simp[go_sem,g11]) (by simp[go_sem]) (by simp[go_sem]) (by simp[go_sem]) (by simp[go_sem]) (by simp[go_sem])).mono ?_
    rintro q e' s' ⟨rfl,hf2,u',i',acc',W',f1,f2,f3,f4,f5,f6,f7,f77,f8,f9,f10,f11,f12,f13⟩
    refine⟨rfl,hf.trans hf2 (fun n h=> .inl h),u',f1,i',acc',f2,f3,W',f4,f5,f6,f7,f77,f8,f9,f10,f11,f12,?_⟩
    rw[f13,fmtB,if_neg h1,hqv,hrv]
    simp
theorem zeros_tells (H:B.H_math_bits_TrailingZeros T) (hwf:st.Wf) (hbr:Bru st) (sh:Nat) (hs1:1≤sh) (hs5:sh≤5):Tells T st (.fn 450 [] []) [.int .u64 ((2 ^ sh:Nat):Int)] (.int .i64 sh):=by
 refine tells_of H.e H.f rfl ?_
 simp[B.math_bits_TrailingZeros,go_sem]
 have key:Tells T st (.fn 452 [] []) [.int .u64 ((2 ^ sh:Nat):Int)] (.int .i64 sh):=by
  refine tells_of H.math_bits_TrailingZeros64.e H.math_bits_TrailingZeros64.f rfl ?_
  have hb:hget st.h 6=some (.glob 6 deB64):=hbr
  have x:=Ext.refl hwf
  have:sh=1∨sh=2∨sh=3∨sh=4∨sh=5:=by omega
  rcases this with rfl | rfl | rfl | rfl | rfl
  ·have e:ishr .u64 (IntKind.u64.wrap (iand .u64 2 (IntKind.u64.wrap (-2))*285870213051353865)) 58=1:=by decide
   simp[B.math_bits_TrailingZeros64,go_sem,hb,aun,e,deB64,x]
  ·have e:ishr .u64 (IntKind.u64.wrap (iand .u64 4 (IntKind.u64.wrap (-4))*285870213051353865)) 58=3:=by decide
   simp[B.math_bits_TrailingZeros64,go_sem,hb,aun,e,deB64,x]
  ·have e:ishr .u64 (IntKind.u64.wrap (iand .u64 8 (IntKind.u64.wrap (-8))*285870213051353865)) 58=7:=by decide
   simp[B.math_bits_TrailingZeros64,go_sem,hb,aun,e,deB64,x]
  ·have e:ishr .u64 (IntKind.u64.wrap (iand .u64 16 (IntKind.u64.wrap (-16))*285870213051353865)) 58=15:=by decide
   simp[B.math_bits_TrailingZeros64,go_sem,hb,aun,e,deB64,x]
  ·have e:ishr .u64 (IntKind.u64.wrap (iand .u64 32 (IntKind.u64.wrap (-32))*285870213051353865)) 58=31:=by decide
   simp[B.math_bits_TrailingZeros64,go_sem,hb,aun,e,deB64,x]
 refine(by simpa using key:Tells T st (.fn 452 [] []) [.int .u64 (2 ^ sh)] (.int .i64 sh)).use fun s1 x1=> ?_
 simp[go_sem,x1]
def p2 (b:Nat):Bool:=decide (b=2∨b=4∨b=8∨b=16∨b=32)
theorem p2_eq:∀n:Fin 37,2≤n.1→decide (iand .i64 (n.1:Int) ((n.1:Int) - 1)=0)=p2 n.1:=by decide+kernel
theorem isPow_tells (H:B.H_strconv_isPowerOfTwo T) (hwf:st.Wf) (b:Nat) (h0:2≤b) (h1:b≤36):Tells T st (.fn 449 [] []) [.int .i64 b] (.bool (p2 b)):=by
 refine tells_of H.e H.f rfl ?_
 have e:=p2_eq ⟨b,by omega⟩ h0
 simp only at e
 have w:IntKind.i64.wrap ((b:Int) - 1)=(b:Int) - 1:=wrap64' (by omega) (by omega)
 simp[B.strconv_isPowerOfTwo,go_sem,w]
 exact⟨e,Ext.refl hwf⟩
theorem formatBits_tells (H:B.H_strconv_formatBits T) (hwf:st.Wf) (hbr:Bru st) (b:Nat) (h0:2≤b) (h1:b≤36) (h10:b≠10) (u:Nat) (hu:u<2 ^ 32):Tells T st (.fn 445 [] []) [.nilslice,.int .u64 u,.int .i64 b,.bool false,.bool false] (.tuple [.nilslice,.str (fmtB b 32 u)]):=by
 refine tells_of H.e H.f rfl ?_
 have a1:¬(b:Int)<2:=by omega
 have a2:¬(b:Int)=10:=by omega
 have a3:¬(36:Int)<b:=by omega
 have a4:¬b<2:=by omega
 have a5:¬36<b:=by omega
 obtain⟨W0,hW0⟩:∃W,List.replicate 65 (AV.int .u8 0)=W:=⟨_,rfl⟩
 have l0:W0.length=65:=by rw[←hW0];simp
 have dd:W0.drop 65=u8s []:=by rw[←hW0];rfl
 have x0:=(Ext.refl hwf).consN (o:= .cells 246 false W0) (Nat.lt_succ_self st.nx)
 have wb:IntKind.u64.wrap (b:Int)=(b:Int):=wrapu64 (by omega) (by omega)
 have wb1:IntKind.u64.wrap ((b:Int) - 1)=((b - 1:Nat):Int):=by rw[wrapu64 (by omega) (by omega)];omega
 simp (disch:=omega) [B.strconv_formatBits,go_sem,a1,a2,a3,a4,a5,h10,hW0]
 refine(isPow_tells H.strconv_isPowerOfTwo x0.wf b h0 h1).use fun s1 x1=> ?_
 have k1:=x1.keep
 have y1:=x0.trans x1
 have n1:=x1.nx
 simp only at k1 n1
 have g1:hget s1.h st.nx=some (.cells 246 false W0):=by rw[k1 _ (by omega)];simp[hget_cons]
 cases hp:p2 b with
 | true=>
   have hsh:∃sh,b=2 ^ sh∧1≤sh∧sh≤5:=by
    simp only[p2,decide_eq_true_eq]at hp
    rcases hp with h | h | h | h | h
    ·exact⟨1,h,by omega,by omega⟩
    ·exact⟨2,h,by omega,by omega⟩
    ·exact⟨3,h,by omega,by omega⟩
    ·exact⟨4,h,by omega,by omega⟩
    ·exact⟨5,h,by omega,by omega⟩
   obtain⟨sh,hsh,s1',s5⟩:=hsh
   simp (disch:=omega) [go_sem,wb]
   have hz:=zeros_tells H.math_bits_TrailingZeros y1.wf (hbr.ext y1 hwf) sh s1' s5
   rw[←hsh]at hz
   refine hz.use fun s2 x2=> ?_
   have y2:=y1.trans x2
   have k2:=x2.keep
   have n2:=x2.nx
   have g2:hget s2.h st.nx=some (.cells 246 false W0):=by rw[k2 _ (by omega),g1]
   have wsh:IntKind.u64.wrap (sh:Int)=(sh:Int):=wrapu64 (by omega) (by omega)
   simp (disch:=omega) [go_sem,wb,wb1,wsh]
   refine(fmt_l0 b sh hsh s1' s5 (pn:=st.nx) 32 u 65 [] W0 _ s2 hu (by simp) (by omega) (by omega) y2.wf g2 l0 dd (by simp[go_sem]) (by simp[go_sem]) (by simp[go_sem]) (by simp[go_sem]) (by simp[go_sem]) (by simp[go_sem]) (by simp[go_sem]) (by simp[go_sem]) (by simp[go_sem]) (by simp[go_sem]) (by simp[go_sem])).mono ?_
   rintro q e' s3 ⟨rfl,hf,u',i',acc',W',f1,f2,f3,f4,f5,f6,f7,f77,f8,f9,f10,f11,f12,f13⟩
   obtain⟨j,rfl⟩:∃j,i'=j+1:=⟨i' - 1,by omega⟩
   have hdig:=digTab_at u' (by omega)
   simp only[digTab]at hdig
   have w4:IntKind.i64.wrap (((j+1:Nat):Int) - 1)=(j:Int):=by rw[wrap64' (by omega) (by omega)];omega
   have j65:(j:Int)<65:=by omega
   have j64:j≤64:=by omega
   obtain⟨z,hz⟩:∃z,65 - j=z+1:=⟨64 - j,by omega⟩
   have hdr:=fmt_step f5 (by omega) f6 (c:=digC u')
   have hln:(u8s (digC u'::acc')).length=z+1:=by rw[u8s_len];simp;omega
   have htk:(u8s (digC u'::acc')).take (z+1)=u8s (digC u'::acc'):=take_all hln
   have hres:digC u'::acc'=fmtB b 32 u:=by rw[f13];simp
   rw[hres]at htk hln hdr
   have y9:Ext st ⟨hset s3.h st.nx (.cells 246 false (W'.set j (.int .u8 (digC u').toNat))),s3.nx⟩:=Ext.setN (st:=st) (h:=s3.h) (m:=s3.nx) (n:=st.nx) (y2.frm hf (by simp)) (Nat.le_refl _)
   simp (disch:=omega) [go_sem,f7,f77,f8,f9,f10,f11,f12,hdig,w4,j65,j64,f4,f5,asubL,abounds,bnd,abound,topOf,subCap,hz,show (j:Int)≤65 by omega,show j≤65 by omega,show j+(z+1)≤65 by omega,hdr,htk,toBytes_u8s,hres]
   exact y9
 | false=>
   simp (disch:=omega) [go_sem,wb]
   refine(fmt_l1 b h0 h1 (pn:=st.nx) 32 u 65 [] W0 _ s1 hu (by simp) (by omega) (by omega) y1.wf g1 l0 dd (by simp[go_sem]) (by simp[go_sem]) (by simp[go_sem]) (by simp[go_sem]) (by simp[go_sem]) (by simp[go_sem]) (by simp[go_sem]) (by simp[go_sem])).mono ?_
   rintro q e' s3 ⟨rfl,hf,u',i',acc',W',f1,f2,f3,f4,f5,f6,f7,f77,f8,f9,f10,f11,f12,f13⟩
   obtain⟨j,rfl⟩:∃j,i'=j+1:=⟨i' - 1,by omega⟩
   have hdig:=digTab_at u' (by omega)
   simp only[digTab]at hdig
   have w4:IntKind.i64.wrap (((j+1:Nat):Int) - 1)=(j:Int):=by rw[wrap64' (by omega) (by omega)];omega
   have j65:(j:Int)<65:=by omega
   have j64:j≤64:=by omega
   obtain⟨z,hz⟩:∃z,65 - j=z+1:=⟨64 - j,by omega⟩
   have hdr:=fmt_step f5 (by omega) f6 (c:=digC u')
   have hln:(u8s (digC u'::acc')).length=z+1:=by rw[u8s_len];simp;omega
   have htk:(u8s (digC u'::acc')).take (z+1)=u8s (digC u'::acc'):=take_all hln
   have hres:digC u'::acc'=fmtB b 32 u:=by rw[f13];simp
   rw[hres]at htk hln hdr
   have y9:Ext st ⟨hset s3.h st.nx (.cells 246 false (W'.set j (.int .u8 (digC u').toNat))),s3.nx⟩:=Ext.setN (st:=st) (h:=s3.h) (m:=s3.nx) (n:=st.nx) (y1.frm hf (by simp)) (Nat.le_refl _)
   simp (disch:=omega) [go_sem,f7,f77,f8,f9,f10,f11,f12,hdig,w4,j65,j64,f4,f5,asubL,abounds,bnd,abound,topOf,subCap,hz,show (j:Int)≤65 by omega,show j≤65 by omega,show j+(z+1)≤65 by omega,hdr,htk,toBytes_u8s,hres]
   exact y9
theorem formatUint_tells (H:B.H_strconv_FormatUint T) (hwf:st.Wf) (hbr:Bru st) (b:Nat) (h0:2≤b) (h1:b≤36) (h10:b≠10) (u:Nat) (hu:u<2 ^ 32):Tells T st (.fn 395 [] []) [.int .u64 u,.int .i64 b] (.str (fmtB b 32 u)):=by
 refine tells_of H.e H.f rfl ?_
 simp[B.strconv_FormatUint,go_sem]
 have key:Tells T st (.fn 431 [] []) [.int .u64 u,.int .i64 b] (.str (fmtB b 32 u)):=by
  refine tells_of H.istrconv_FormatUint.e H.istrconv_FormatUint.f rfl ?_
  have a2:¬(b:Int)=10:=by omega
  simp (disch:=omega) [B.istrconv_FormatUint,go_sem,a2]
  refine(formatBits_tells H.istrconv_FormatUint.strconv_formatBits hwf hbr b h0 h1 h10 u hu).use fun s1 x1=> ?_
  simp[go_sem,x1]
 refine key.use fun s1 x1=> ?_
 simp[go_sem,x1]
end Go.Ev

/- The reference's Print and Same; a token takes octets; all tokens. -/
namespace Go.Ev
open Go
variable {T : Tab} {st : St}
theorem dec_len (n:Nat) (h:n<10000000000):(Lib.decDigits n).length≤10:=by
 have aux:∀(k n:Nat),n<10 ^ (k+1)→(Lib.decDigits n).length≤k+1:=by
  intro k
  induction k with
  | zero=>intro n hn;rw[decDigits_small (by simpa using hn)];simp
  | succ k ih=>
    intro n hn
    by_cases h10:n<10
    ·rw[decDigits_small h10];simp
    ·rw[decDigits_big (by omega),List.length_append,List.length_singleton]
     have:=ih (n / 10) (by rw[Nat.pow_succ]at hn;omega)
     omega
 exact aux 9 n (by simpa using h)
end Go.Ev

/- The judge told: cvs and cvrs. -/
namespace Go.Ev
open Go
variable {T : Tab} {st st' : St}
theorem textE_len {hp:List Ce} (hs:HpS hp) (o:Ob):(textE hp o).length<1000000000:=by
 unfold textE
 split
 case isFalse=>simp
 rename_i hf
 obtain⟨b3,b4,_⟩:=fits_n hf
 split
 ·simp only[boolT];split <;> simp
 split
 ·rename_i h3
  have:=b3 h3
  unfold Lib.itoa
  split
  ·have:=dec_len o.n.natAbs (by omega)
   simp only[List.length_cons];omega
  ·have:=dec_len o.n.toNat (by omega)
   omega
 split
 ·rename_i h4
  have:=b4 h4
  have h3:=dec_len (o.n.natAbs / 65536) (by omega)
  have h4:=fracS_len 17 (o.n.natAbs % 65536)
  unfold printS
  simp only[List.length_append,List.length_cons]
  split <;> simp only[List.length_cons,List.length_nil] <;> omega
 have ht:o.k=5∨o.k=10→o.t.length<1000000000:=by
  intro hk
  simp only[fitsB,Bool.and_eq_true,checkB,namK,decide_eq_true_eq]at hf
  have:=hf.1.2.2.1.2
  rcases hk with e | e <;> rw[e]at this <;> simp[kdOf,kdTab]at this <;> omega
 split
 ·rename_i h;exact ht (.inl h)
 split
 ·unfold bytesE
  split
  ·cases hc:ceAt hp o.r with
   | none=>simp
   | some c=>
     have:=hs.2 c (List.mem_of_getElem? hc)
     simp only[subB,List.length_take,List.length_drop]
     omega
  ·simp
 split
 ·rename_i h;exact ht (.inr h)
 ·decide
theorem digC_lt (d:Nat) (h:d<36):(digC d).toNat<128:=by
 unfold digC
 split <;> simp <;> omega
theorem fmtB_ascii (b:Nat) (hb:0<b∧b≤36):∀k u,(fmtB b k u).length≤k+1∧(u<b ^ (k+1)→(fmtB b k u).all (fun c=>decide (c.toNat<128))=true)
 | 0,u=>⟨by simp[fmtB],fun h=>by
   have:=digC_lt u (by simp at h;omega)
   simpa [fmtB] using this⟩
 | k+1,u=>by
   obtain⟨h1,h2⟩:=fmtB_ascii b hb k (u / b)
   unfold fmtB
   split
   ·rename_i h
    refine⟨by simp,fun _=> ?_⟩
    have:=digC_lt u (by omega)
    simpa using this
   ·refine⟨by simp;omega,fun h=> ?_⟩
    have hm:u % b<b:=Nat.mod_lt _ hb.1
    have h3:=digC_lt (u % b) (by omega)
    rw[List.all_append,h2 (by rw[Nat.div_lt_iff_lt_mul hb.1,←Nat.pow_succ];exact h)]
    simpa using h3
theorem toUpperA_len (s:List UInt8):(Lib.toUpperA s).length=s.length:=by simp[Lib.toUpperA]
def cvsR (ops:List Ob) (hp:List Ce):R3:=if operE ops [0,2]≠0 then(operE ops [0,2],[],[])else putR ops hp 2 (textE hp (opAt ops 2 0)) (opAt ops 2 1)
def baseT (o:Ob) (b:Int):List UInt8:=Lib.toUpperA (fmtB b.toNat 32 (IntKind.u32.wrap (toIntE o).1.n).toNat)
def cvrsR (ops:List Ob) (hp:List Ce):R3:=
 if operE ops [1,4,2]≠0 then(operE ops [1,4,2],[],[])
 else if(opAt ops 3 1).n<2∨36<(opAt ops 3 1).n then(23,[],[])
 else if(opAt ops 3 1).n=10 then putR ops hp 3 (textE hp (opAt ops 3 0)) (opAt ops 3 2)
 else putR ops hp 3 (baseT (opAt ops 3 0) (opAt ops 3 1).n) (opAt ops 3 2)
theorem cvs_res (H:B.H_logic_judge_cvs T) (hwf:st.Wf) {v0 v1 v2:AV} {r:List AV} (hR:Rest v1 r) {ops:List Ob} {hp:List Ce} (r0:RdO st.h v0 ops) (r2:HpR st.h v2 hp) (hb:ops.length<1000000) (hs:HpS hp) (hpw:Pow st) (hbr:Bru st):
  CRes (call T (.fn 352 [] []) [.agg (v0::v1::v2::r)] st) fun w s=>Ext st s∧AnsH s w v0 v1 v2 r (cvsR ops hp).1 (cvsR ops hp).2.1 (cvsR ops hp).2.2:=by
 refine call_res H.e H.f rfl ?_
 have hlen:=hR.len
 have ht:=hR.take
 have s0:=RdS.sc r0
 have s1:=hR.sc
 have s2:=r2.sc
 have sr:=hR.all
 have z1:∀v,splice B.z457 0 (v::v1::v2::r)=v::v1::v2::r:=fun v=>splice_len (by rw[hR.len67,zSt_len])
 have d0:¬st.nx+1+1=st.nx:=by omega
 have x0:=(((Ext.refl hwf).consN (o:= .cells 493 true (v0::v1::v2::r)) (Nat.lt_succ_self st.nx)).consN (o:= .cells 457 true B.z457) (Nat.lt_succ_self (st.nx+1))).consN (o:= .cells 3 false (intsA [0,2])) (Nat.lt_succ_self (st.nx+1+1))
 simp (disch:=omega) [B.logic_judge_cvs,go_sem,hlen,ht,d0]
 refine(operands_res H.logic_judge_operands x0.wf hR (r0.ext x0 hwf) s2 hb (ints_made [0,2] _ _ _ rfl) (by simp)).mono ?_
 rintro w q1 ⟨x1,⟨he,rfl⟩ | ⟨he,hle,v',rfl,r1⟩⟩
 ·have y1:=x0.trans x1
  have n1:=x1.nx
  have k1:=x1.keep
  simp only at n1 k1
  have e1:cvsR ops hp=(operE ops [0,2],[],[]):=by unfold cvsR;rw[if_pos he]
  rw[e1]
  simp (disch:=omega) [go_sem,k1,he,d0,hlen,ht,z1,zSt_len,s0,s1,s2,sr]
  exact⟨(Ext.setN (st:=st) (h:=q1.h) (m:=q1.nx) (n:=st.nx+1) y1 (by omega)).dropLoc,.inl ⟨he,rfl⟩⟩
 ·have y1:=x0.trans x1
  have n1:=x1.nx
  have k1:=x1.keep
  simp only at n1 k1
  obtain⟨n,off,ob,hat⟩:=r1.acc y1.wf
  obtain⟨a01,a02,a03,a04⟩:=hat 0 _ (by omega) (opAt_get hle (i:=0) (by simp))
  obtain⟨a11,a12,a13,a14⟩:=hat 1 _ (by omega) (opAt_get hle (i:=1) (by simp))
  simp only[List.length_cons,List.length_nil,Int.reduceToNat,Nat.zero_mul,Nat.one_mul,Nat.zero_add,Nat.add_zero,Nat.reduceAdd,Nat.reduceMul]at a03 a04 a13 a14 hle
  have e1:cvsR ops hp=putR ops hp 2 (textE hp (opAt ops 2 0)) (opAt ops 2 1):=by unfold cvsR;rw[if_neg (by simp[he])]
  rw[e1]
  generalize opAt ops 2 0=oa at*
  generalize opAt ops 2 1=ob2 at*
  have y2:=y1.upN (m:=q1.nx+18) (by omega)
  simp (disch:=omega) [go_sem,k1,he,d0,hlen,ht,↓PO_iaddr,a02,a03,a04,a12,a13,a14]
  refine(objText_tells H.logic_Text y2.wf (hpw.ext y2 hwf) (r2.ext y2 hwf) oa).use fun q2 x2=> ?_
  have k2:=x2.keep
  have y3:=y2.trans x2
  have n2:=x2.nx
  simp only at k2 n2
  have htx:=textE_len hs oa
  generalize textE hp oa=tx at*
  simp (disch:=omega) [go_sem,reI,wanted,k2,k1,a02,a04,a12,a14,d0,hlen,ht]
  refine(put_res H.logic_judge_put y3.wf hR hs (r0.ext y3 hwf) (r2.ext y3 hwf) hb 2 (by decide) _ htx _).mono ?_
  rintro w q9 ⟨x9,ha⟩
  obtain⟨X,e',rfl,hX,hXs,hXt,hXz⟩:=ha.shape hR s0 s2
  have k9:=x9.keep
  have y9:=y3.trans x9
  have n9:=x9.nx
  try simp only at n9 k9
  have g:hget q9.h (st.nx+1)=some (.cells 457 true B.z457):=by
   rw[k9 _ (by omega)]
   simp (disch:=omega) [k2,k1,hget_cons,hget_hset']
  simp (disch:=omega) [go_sem,reI,wanted,k9,k2,k1,d0,hX,hXs,hXt,hXz,zSt_len]
  have z:=Ext.setN (st:=st) (h:=q9.h) (m:=q9.nx) (n:=st.nx+1) (o:= .cells 457 true X) y9 (by omega)
  exact⟨z.dropLoc,AnsH.dropLoc (st:=⟨_,q9.nx⟩) (ha.hset g rfl) z.wf⟩
theorem cvrs_res (H:B.H_logic_judge_cvrs T) (hwf:st.Wf) {v0 v1 v2:AV} {r:List AV} (hR:Rest v1 r) {ops:List Ob} {hp:List Ce} (r0:RdO st.h v0 ops) (r2:HpR st.h v2 hp) (hb:ops.length<1000000) (hs:HpS hp) (hpw:Pow st) (hbr:Bru st):
  CRes (call T (.fn 353 [] []) [.agg (v0::v1::v2::r)] st) fun w s=>Ext st s∧AnsH s w v0 v1 v2 r (cvrsR ops hp).1 (cvrsR ops hp).2.1 (cvrsR ops hp).2.2:=by
 refine call_res H.e H.f rfl ?_
 have hlen:=hR.len
 have ht:=hR.take
 have s0:=RdS.sc r0
 have s1:=hR.sc
 have s2:=r2.sc
 have sr:=hR.all
 have z1:∀v,splice B.z457 0 (v::v1::v2::r)=v::v1::v2::r:=fun v=>splice_len (by rw[hR.len67,zSt_len])
 have d0:¬st.nx+1+1=st.nx:=by omega
 have x0:=(((Ext.refl hwf).consN (o:= .cells 493 true (v0::v1::v2::r)) (Nat.lt_succ_self st.nx)).consN (o:= .cells 457 true B.z457) (Nat.lt_succ_self (st.nx+1))).consN (o:= .cells 3 false (intsA [1,4,2])) (Nat.lt_succ_self (st.nx+1+1))
 simp (disch:=omega) [B.logic_judge_cvrs,go_sem,hlen,ht,d0]
 refine(operands_res H.logic_judge_operands x0.wf hR (r0.ext x0 hwf) s2 hb (ints_made [1,4,2] _ _ _ rfl) (by simp)).mono ?_
 rintro w q1 ⟨x1,⟨he,rfl⟩ | ⟨he,hle,v',rfl,r1⟩⟩
 ·have y1:=x0.trans x1
  have n1:=x1.nx
  have k1:=x1.keep
  simp only at n1 k1
  have e1:cvrsR ops hp=(operE ops [1,4,2],[],[]):=by unfold cvrsR;rw[if_pos he]
  rw[e1]
  simp (disch:=omega) [go_sem,k1,he,d0,hlen,ht,z1,zSt_len,s0,s1,s2,sr]
  exact⟨(Ext.setN (st:=st) (h:=q1.h) (m:=q1.nx) (n:=st.nx+1) y1 (by omega)).dropLoc,.inl ⟨he,rfl⟩⟩
 ·have y1:=x0.trans x1
  have n1:=x1.nx
  have k1:=x1.keep
  simp only at n1 k1
  obtain⟨n,off,ob,hat⟩:=r1.acc y1.wf
  obtain⟨a01,a02,a03,a04⟩:=hat 0 _ (by omega) (opAt_get hle (i:=0) (by simp))
  obtain⟨a11,a12,a13,a14⟩:=hat 1 _ (by omega) (opAt_get hle (i:=1) (by simp))
  obtain⟨a21,a22,a23,a24⟩:=hat 2 _ (by omega) (opAt_get hle (i:=2) (by simp))
  simp only[List.length_cons,List.length_nil,Int.reduceToNat,Nat.zero_mul,Nat.one_mul,Nat.zero_add,Nat.add_zero,Nat.reduceAdd,Nat.reduceMul]at a03 a04 a13 a14 a23 a24 hle
  by_cases hbase:(opAt ops 3 1).n<2∨36<(opAt ops 3 1).n
  ·have e1:cvrsR ops hp=(23,[],[]):=by unfold cvrsR;rw[if_neg (by simp[he]),if_pos hbase]
   rw[e1]
   generalize opAt ops 3 0=oa at*
   generalize opAt ops 3 1=ob2 at*
   generalize opAt ops 3 2=oc at*
   have p3:=rdOb_one a14 (i:=2) (by omega)
   simp[Ob.A]at p3
   by_cases hb2:ob2.n<2
   ·simp (disch:=omega) [go_sem,k1,he,d0,hlen,ht,↓PO_iaddr,a12,a13,p3,hb2,z1,zSt_len,s0,s1,s2,sr]
    exact⟨(Ext.setN (st:=st) (h:=q1.h) (m:=q1.nx) (n:=st.nx+1) y1 (by omega)).dropLoc,.inl ⟨by decide,rfl⟩⟩
   ·have hb3:36<ob2.n:=by omega
    simp (disch:=omega) [go_sem,k1,he,d0,hlen,ht,↓PO_iaddr,a12,a13,p3,hb2,hb3,z1,zSt_len,s0,s1,s2,sr]
    exact⟨(Ext.setN (st:=st) (h:=q1.h) (m:=q1.nx) (n:=st.nx+1) y1 (by omega)).dropLoc,.inl ⟨by decide,rfl⟩⟩
  ·have htx:=textE_len hs (opAt ops 3 0)
   by_cases h10:(opAt ops 3 1).n=10
   ·have e1:cvrsR ops hp=putR ops hp 3 (textE hp (opAt ops 3 0)) (opAt ops 3 2):=by unfold cvrsR;rw[if_neg (by simp[he]),if_neg hbase,if_pos h10]
    rw[e1]
    generalize opAt ops 3 0=oa at*
    generalize opAt ops 3 1=ob2 at*
    generalize opAt ops 3 2=oc at*
    have p3:=rdOb_one a14 (i:=2) (by omega)
    simp[Ob.A,h10]at p3
    have y2:=y1.upN (m:=q1.nx+8) (by omega)
    simp (disch:=omega) [go_sem,k1,he,d0,hlen,ht,↓PO_iaddr,a02,a03,a04,a12,a13,p3]
    refine(objText_tells H.logic_Text y2.wf (hpw.ext y2 hwf) (r2.ext y2 hwf) oa).use fun q2 x2=> ?_
    have k2:=x2.keep
    have y3:=y2.trans x2
    have n2:=x2.nx
    simp only at k2 n2
    have y4:=y3.upN (m:=q2.nx+10) (by omega)
    generalize textE hp oa=tx at*
    simp (disch:=omega) [go_sem,reI,wanted,k2,k1,a02,a22,a23,a24,d0,hlen,ht,↓PO_iaddr]
    refine(put_res H.logic_judge_put y4.wf hR hs (r0.ext y4 hwf) (r2.ext y4 hwf) hb 3 (by decide) _ htx _).mono ?_
    rintro w q9 ⟨x9,ha⟩
    obtain⟨X,e',rfl,hX,hXs,hXt,hXz⟩:=ha.shape hR s0 s2
    have k9:=x9.keep
    have y9:=y4.trans x9
    have n9:=x9.nx
    try simp only at n9 k9
    have g:hget q9.h (st.nx+1)=some (.cells 457 true B.z457):=by
     rw[k9 _ (by omega)]
     simp (disch:=omega) [k2,k1,hget_cons,hget_hset']
    simp (disch:=omega) [go_sem,reI,wanted,k9,k2,k1,d0,hX,hXs,hXt,hXz,zSt_len]
    have z:=Ext.setN (st:=st) (h:=q9.h) (m:=q9.nx) (n:=st.nx+1) (o:= .cells 457 true X) y9 (by omega)
    exact⟨z.dropLoc,AnsH.dropLoc (st:=⟨_,q9.nx⟩) (ha.hset g rfl) z.wf⟩
   ·have e1:cvrsR ops hp=putR ops hp 3 (baseT (opAt ops 3 0) (opAt ops 3 1).n) (opAt ops 3 2):=by unfold cvrsR;rw[if_neg (by simp[he]),if_neg hbase,if_neg h10]
    rw[e1]
    generalize opAt ops 3 0=oa at*
    generalize opAt ops 3 1=ob2 at*
    generalize opAt ops 3 2=oc at*
    have p3:=rdOb_one a14 (i:=2) (by omega)
    simp[Ob.A]at p3
    have hb2:¬ob2.n<2:=by omega
    have hb3:¬36<ob2.n:=by omega
    have y2:=y1.upN (m:=q1.nx+8) (by omega)
    simp (disch:=omega) [go_sem,k1,he,d0,hlen,ht,↓PO_iaddr,a02,a03,a04,a12,a13,p3,hb2,hb3]
    refine(objText_tells H.logic_Text y2.wf (hpw.ext y2 hwf) (r2.ext y2 hwf) oa).use fun q2 x2=> ?_
    have k2:=x2.keep
    have y3:=y2.trans x2
    have n2:=x2.nx
    simp only at k2 n2
    simp (disch:=omega) [go_sem,reI,wanted,k2,k1,a02,a04,d0,hlen,ht,↓PO_iaddr,a03,h10]
    refine(toInt_obj H.object_ToInt y3.wf oa).use fun q3 x3=> ?_
    have k3:=x3.keep
    have y4:=y3.trans x3
    have n3:=x3.nx
    have f1:¬q3.nx=st.nx:=by omega
    have f2:¬q3.nx=st.nx+1:=by omega
    have f3:¬q3.nx=n:=by omega
    obtain⟨U,hU,hU0,hU1⟩:∃U:Nat,IntKind.u32.wrap (toIntE oa).1.n=(U:Int)∧U<2 ^ 32∧(IntKind.u32.wrap (toIntE oa).1.n).toNat=U:=by
     have h0:0≤IntKind.u32.wrap (toIntE oa).1.n∧IntKind.u32.wrap (toIntE oa).1.n<4294967296:=by
      simp[IntKind.wrap,IntKind.signed,IntKind.bits];omega
     exact⟨(IntKind.u32.wrap (toIntE oa).1.n).toNat,by omega,by omega,rfl⟩
    have hbT:baseT oa ob2.n=Lib.toUpperA (fmtB ob2.n.toNat 32 U):=by unfold baseT;rw[hU1]
    rw[hbT]
    obtain⟨bn,hbn⟩:∃bn:Nat,ob2.n=(bn:Int):=⟨ob2.n.toNat,by omega⟩
    rw[show ob2.n.toNat=bn by omega]
    have wU:IntKind.u64.wrap (U:Int)=(U:Int):=wrapu64 (by omega) (by omega)
    have y5:=y4.consN (o:= .cells 451 true (toIntE oa).1.A) (Nat.lt_succ_self q3.nx)
    simp (disch:=omega) [go_sem,k3,k2,k1,d0,f1,f2,f3,B.zOb,hlen,ht,hU,wU,hbn]
    refine(formatUint_tells H.strconv_FormatUint y5.wf (hbr.ext y5 hwf) bn (by omega) (by omega) (by omega) U hU0).use fun q4 x4=> ?_
    have k4:=x4.keep
    have y6:=y5.trans x4
    have n4:=x4.nx
    simp only at k4 n4
    have y7:=y6.upN (m:=q4.nx+10) (by omega)
    obtain⟨hl1,hl2⟩:=fmtB_ascii bn (by omega) 32 U
    have hl2:=hl2 (Nat.lt_of_lt_of_le hU0 (Nat.le_trans (Nat.pow_le_pow_right (by omega) (by omega:32≤33)) (Nat.pow_le_pow_left (by omega) 33)))
    have hup:call T (.fn 396 [] []) [.str (fmtB bn 32 U)] q4=some (.str (Lib.toUpperA (fmtB bn 32 U)),q4):=by
     rw[call_entry H.strings_ToUpper.en]
     simp only[List.nil_append,List.append_nil,B.E_strings_ToUpper]
     rw[if_pos ⟨by omega,hl2⟩]
    have hll:(Lib.toUpperA (fmtB bn 32 U)).length<1000000000:=by rw[toUpperA_len];omega
    generalize Lib.toUpperA (fmtB bn 32 U)=tx at*
    simp (disch:=omega) [go_sem,reI,wanted,hup,k4,k3,k2,k1,f1,f2,f3,a02,a22,a23,a24,d0,hlen,ht,↓PO_iaddr]
    refine(put_res H.logic_judge_put y7.wf hR hs (r0.ext y7 hwf) (r2.ext y7 hwf) hb 3 (by decide) _ hll _).mono ?_
    rintro w q9 ⟨x9,ha⟩
    obtain⟨X,e',rfl,hX,hXs,hXt,hXz⟩:=ha.shape hR s0 s2
    have k9:=x9.keep
    have y9:=y7.trans x9
    have n9:=x9.nx
    try simp only at n9 k9
    have g:hget q9.h (st.nx+1)=some (.cells 457 true B.z457):=by
     rw[k9 _ (by omega)]
     simp (disch:=omega) [k4,k3,k2,k1,hget_cons,hget_hset',f1,f2,f3]
    simp (disch:=omega) [go_sem,reI,wanted,k9,k4,k3,k2,k1,d0,hX,hXs,hXt,hXz,zSt_len,f1,f2,f3]
    have z:=Ext.setN (st:=st) (h:=q9.h) (m:=q9.nx) (n:=st.nx+1) (o:= .cells 457 true X) y9 (by omega)
    exact⟨z.dropLoc,AnsH.dropLoc (st:=⟨_,q9.nx⟩) (ha.hset g rfl) z.wf⟩
end Go.Ev

/- Do told. -/
namespace Go.Ev
open Go
variable {T : Tab} {st st' : St}
theorem Ans.toH {w v0 v1 v2:AV} {r:List AV} {e:Int} {ops:List Ob} {hp:List Ce} (a:Ans st w v0 v1 v2 r e ops) (h:HpR st.h v2 hp):AnsH st w v0 v1 v2 r e ops hp:=by
 rcases a with h1 | ⟨h1,v',h2,h3⟩
 ·exact .inl h1
 ·exact .inr ⟨h1,v',v2,h2,h3,h⟩
def r23 (r:R2) (hp:List Ce):R3:=(r.1,r.2,hp)
def pushR (ops:List Ob) (o:Ob):R2:=(if 100<ops.length+1 then 21 else 0,ops++[o])
def doR (ops:List Ob) (hp:List Ce) (op:List UInt8):R3:=
 if op=[108,116]then r23 (cmpR ops hp fun c=>decide (c<0)) hp
 else if op=[108,101]then r23 (cmpR ops hp fun c=>decide (c≤0)) hp
 else if op=[103,116]then r23 (cmpR ops hp fun c=>decide (0<c)) hp
 else if op=[103,101]then r23 (cmpR ops hp fun c=>decide (0≤c)) hp
 else if op=[97,110,100]then r23 (bitsR ops (iand .i64)) hp
 else if op=[111,114]then r23 (bitsR ops (ior .i64)) hp
 else if op=[120,111,114]then r23 (bitsR ops (ixor .i64)) hp
 else if op=[101,113]then r23 (sameR ops hp true) hp
 else if op=[110,101]then r23 (sameR ops hp false) hp
 else if op=[110,111,116]then r23 (notR ops) hp
 else if op=[98,105,116,115,104,105,102,116]then r23 (shiftR ops) hp
 else if op=[116,114,117,101]then r23 (pushR ops (obBool true)) hp
 else if op=[102,97,108,115,101]then r23 (pushR ops (obBool false)) hp
 else if op=[110,117,108,108]then r23 (pushR ops obZ) hp
 else if op=[116,121,112,101]then r23 (oneR ops 0 kindF) hp
 else if op=[120,99,104,101,99,107]then r23 (oneR ops 0 xF) hp
 else if op=[99,118,120]then r23 (oneR ops 0 (execF true)) hp
 else if op=[99,118,108,105,116]then r23 (oneR ops 0 (execF false)) hp
 else if op=[99,118,110]then r23 (oneR ops 2 (nameF hp)) hp
 else if op=[99,118,105]then r23 (oneR ops 5 (convF hp toIntE)) hp
 else if op=[99,118,114]then r23 (oneR ops 5 (convF hp toRealE)) hp
 else if op=[99,118,115]then cvsR ops hp
 else if op=[99,118,114,115]then cvrsR ops hp
 else(24,[],[])
theorem do1f_tells (H:B.H_logic_Do_1 T) (hwf:st.Wf) (c:Int):Tells T st (.fn 330 [] []) [.int .i64 c] (.bool ((fun c=>decide (c<0)) c)):=by
 refine tells_of H.e H.f rfl ?_
 simp[B.logic_Do_1,go_sem]
 exact Ext.refl hwf
theorem do_lt (H:B.H_logic_Do T) (hwf:st.Wf) {v0 v1 v2:AV} {r:List AV} (hR:Rest v1 r) {ops:List Ob} {hp:List Ce} (r0:RdO st.h v0 ops) (r2:HpR st.h v2 hp) (hb:ops.length<1000000) (hs:HpS hp) (hpw:Pow st) (hbr:Bru st):
  CRes (call T (.fn 308 [] []) [.agg (v0::v1::v2::r),.str [108,116]] st) fun w s=>Ext st s∧AnsH s w v0 v1 v2 r (cmpR ops hp fun c=>decide (c<0)).1 (cmpR ops hp fun c=>decide (c<0)).2 hp:=by
 refine call_res H.e H.f rfl ?_
 have hlen:=hR.len
 have ht:=hR.take
 have s0:=RdS.sc r0
 have s1:=hR.sc
 have s2:=r2.sc
 have sr:=hR.all
 have z1:∀v,splice B.z457 0 (v::v1::v2::r)=v::v1::v2::r:=fun v=>splice_len (by rw[hR.len67,zSt_len])
 have d0:¬st.nx+1+1=st.nx:=by omega
 have d1:¬st.nx+1+1=st.nx+1:=by omega
 have d2:¬st.nx+1+1+1=st.nx:=by omega
 have d3:¬st.nx+1+1+1=st.nx+1:=by omega
 have d4:¬st.nx+1+1+1=st.nx+1+1:=by omega
 have d5:¬st.nx+1+1+1+1=st.nx:=by omega
 have d6:¬st.nx+1+1+1+1=st.nx+1:=by omega
 have d7:¬st.nx+1+1+1+1=st.nx+1+1:=by omega
 have d8:¬st.nx+1+1+1+1=st.nx+1+1+1:=by omega
 have xA:=((((Ext.refl hwf).consN (o:= .cells 457 true (v0::v1::v2::r)) (Nat.lt_succ_self st.nx)).consN (o:= .cells 457 true B.z457) (Nat.lt_succ_self (st.nx+1))).consN (o:= .cells 493 true (v0::v1::v2::r)) (Nat.lt_succ_self (st.nx+1+1))).consN (o:=(.map [(.str [108,116],.fn 330 [] []),(.str [108,101],.fn 331 [] []),(.str [103,116],.fn 332 [] []),(.str [103,101],.fn 333 [] [])])) (Nat.lt_succ_self (st.nx+1+1+1))
 simp (disch:=omega) [B.logic_Do,go_sem,hlen,ht,d0,d1,d2,d3,d4,d5,d6,d7,d8,z1,zSt_len,s0,s1,s2,sr,mins,mfind,cellEqK,seq8]
 refine(cmp_res H.logic_judge_compare xA.wf hR (r0.ext xA hwf) (r2.ext xA hwf) hb (f:=fun c=>decide (c<0)) (fun s c hw=>do1f_tells H.logic_Do_1 hw c)).mono ?_
 rintro w q9 ⟨x9,ha⟩
 have k9:=x9.keep
 have y9:=xA.trans x9
 have n9:=x9.nx
 try simp only at n9 k9
 have ha:=ha.toH (r2.ext y9 hwf)
 obtain⟨X,e',rfl,hX,hXs,hXt,hXz⟩:=ha.shape hR s0 s2
 have g:hget q9.h (st.nx+1)=some (.cells 457 true B.z457):=by
  rw[k9 _ (by omega)]
  simp (disch:=omega) [hget_cons,d0,d1,d2,d3,d4,d5,d6,d7,d8]
 simp (disch:=omega) [go_sem,reI,wanted,k9,hX,hXs,hXt,hXz,zSt_len,d0,d1,d2,d3,d4,d5,d6,d7,d8]
 have z:=Ext.setN (st:=st) (h:=q9.h) (m:=q9.nx) (n:=st.nx+1) (o:= .cells 457 true X) y9 (by omega)
 exact⟨z.dropLoc,AnsH.dropLoc (st:=⟨_,q9.nx⟩) (ha.hset g rfl) z.wf⟩
theorem do2f_tells (H:B.H_logic_Do_2 T) (hwf:st.Wf) (c:Int):Tells T st (.fn 331 [] []) [.int .i64 c] (.bool ((fun c=>decide (c≤0)) c)):=by
 refine tells_of H.e H.f rfl ?_
 simp[B.logic_Do_2,go_sem]
 exact Ext.refl hwf
theorem do_le (H:B.H_logic_Do T) (hwf:st.Wf) {v0 v1 v2:AV} {r:List AV} (hR:Rest v1 r) {ops:List Ob} {hp:List Ce} (r0:RdO st.h v0 ops) (r2:HpR st.h v2 hp) (hb:ops.length<1000000) (hs:HpS hp) (hpw:Pow st) (hbr:Bru st):
  CRes (call T (.fn 308 [] []) [.agg (v0::v1::v2::r),.str [108,101]] st) fun w s=>Ext st s∧AnsH s w v0 v1 v2 r (cmpR ops hp fun c=>decide (c≤0)).1 (cmpR ops hp fun c=>decide (c≤0)).2 hp:=by
 refine call_res H.e H.f rfl ?_
 have hlen:=hR.len
 have ht:=hR.take
 have s0:=RdS.sc r0
 have s1:=hR.sc
 have s2:=r2.sc
 have sr:=hR.all
 have z1:∀v,splice B.z457 0 (v::v1::v2::r)=v::v1::v2::r:=fun v=>splice_len (by rw[hR.len67,zSt_len])
 have d0:¬st.nx+1+1=st.nx:=by omega
 have d1:¬st.nx+1+1=st.nx+1:=by omega
 have d2:¬st.nx+1+1+1=st.nx:=by omega
 have d3:¬st.nx+1+1+1=st.nx+1:=by omega
 have d4:¬st.nx+1+1+1=st.nx+1+1:=by omega
 have d5:¬st.nx+1+1+1+1=st.nx:=by omega
 have d6:¬st.nx+1+1+1+1=st.nx+1:=by omega
 have d7:¬st.nx+1+1+1+1=st.nx+1+1:=by omega
 have d8:¬st.nx+1+1+1+1=st.nx+1+1+1:=by omega
 have xA:=((((Ext.refl hwf).consN (o:= .cells 457 true (v0::v1::v2::r)) (Nat.lt_succ_self st.nx)).consN (o:= .cells 457 true B.z457) (Nat.lt_succ_self (st.nx+1))).consN (o:= .cells 493 true (v0::v1::v2::r)) (Nat.lt_succ_self (st.nx+1+1))).consN (o:=(.map [(.str [108,116],.fn 330 [] []),(.str [108,101],.fn 331 [] []),(.str [103,116],.fn 332 [] []),(.str [103,101],.fn 333 [] [])])) (Nat.lt_succ_self (st.nx+1+1+1))
 simp (disch:=omega) [B.logic_Do,go_sem,hlen,ht,d0,d1,d2,d3,d4,d5,d6,d7,d8,z1,zSt_len,s0,s1,s2,sr,mins,mfind,cellEqK,seq8]
 refine(cmp_res H.logic_judge_compare xA.wf hR (r0.ext xA hwf) (r2.ext xA hwf) hb (f:=fun c=>decide (c≤0)) (fun s c hw=>do2f_tells H.logic_Do_2 hw c)).mono ?_
 rintro w q9 ⟨x9,ha⟩
 have k9:=x9.keep
 have y9:=xA.trans x9
 have n9:=x9.nx
 try simp only at n9 k9
 have ha:=ha.toH (r2.ext y9 hwf)
 obtain⟨X,e',rfl,hX,hXs,hXt,hXz⟩:=ha.shape hR s0 s2
 have g:hget q9.h (st.nx+1)=some (.cells 457 true B.z457):=by
  rw[k9 _ (by omega)]
  simp (disch:=omega) [hget_cons,d0,d1,d2,d3,d4,d5,d6,d7,d8]
 simp (disch:=omega) [go_sem,reI,wanted,k9,hX,hXs,hXt,hXz,zSt_len,d0,d1,d2,d3,d4,d5,d6,d7,d8]
 have z:=Ext.setN (st:=st) (h:=q9.h) (m:=q9.nx) (n:=st.nx+1) (o:= .cells 457 true X) y9 (by omega)
 exact⟨z.dropLoc,AnsH.dropLoc (st:=⟨_,q9.nx⟩) (ha.hset g rfl) z.wf⟩
theorem do3f_tells (H:B.H_logic_Do_3 T) (hwf:st.Wf) (c:Int):Tells T st (.fn 332 [] []) [.int .i64 c] (.bool ((fun c=>decide (0<c)) c)):=by
 refine tells_of H.e H.f rfl ?_
 simp[B.logic_Do_3,go_sem]
 exact Ext.refl hwf
theorem do_gt (H:B.H_logic_Do T) (hwf:st.Wf) {v0 v1 v2:AV} {r:List AV} (hR:Rest v1 r) {ops:List Ob} {hp:List Ce} (r0:RdO st.h v0 ops) (r2:HpR st.h v2 hp) (hb:ops.length<1000000) (hs:HpS hp) (hpw:Pow st) (hbr:Bru st):
  CRes (call T (.fn 308 [] []) [.agg (v0::v1::v2::r),.str [103,116]] st) fun w s=>Ext st s∧AnsH s w v0 v1 v2 r (cmpR ops hp fun c=>decide (0<c)).1 (cmpR ops hp fun c=>decide (0<c)).2 hp:=by
 refine call_res H.e H.f rfl ?_
 have hlen:=hR.len
 have ht:=hR.take
 have s0:=RdS.sc r0
 have s1:=hR.sc
 have s2:=r2.sc
 have sr:=hR.all
 have z1:∀v,splice B.z457 0 (v::v1::v2::r)=v::v1::v2::r:=fun v=>splice_len (by rw[hR.len67,zSt_len])
 have d0:¬st.nx+1+1=st.nx:=by omega
 have d1:¬st.nx+1+1=st.nx+1:=by omega
 have d2:¬st.nx+1+1+1=st.nx:=by omega
 have d3:¬st.nx+1+1+1=st.nx+1:=by omega
 have d4:¬st.nx+1+1+1=st.nx+1+1:=by omega
 have d5:¬st.nx+1+1+1+1=st.nx:=by omega
 have d6:¬st.nx+1+1+1+1=st.nx+1:=by omega
 have d7:¬st.nx+1+1+1+1=st.nx+1+1:=by omega
 have d8:¬st.nx+1+1+1+1=st.nx+1+1+1:=by omega
 have xA:=((((Ext.refl hwf).consN (o:= .cells 457 true (v0::v1::v2::r)) (Nat.lt_succ_self st.nx)).consN (o:= .cells 457 true B.z457) (Nat.lt_succ_self (st.nx+1))).consN (o:= .cells 493 true (v0::v1::v2::r)) (Nat.lt_succ_self (st.nx+1+1))).consN (o:=(.map [(.str [108,116],.fn 330 [] []),(.str [108,101],.fn 331 [] []),(.str [103,116],.fn 332 [] []),(.str [103,101],.fn 333 [] [])])) (Nat.lt_succ_self (st.nx+1+1+1))
 simp (disch:=omega) [B.logic_Do,go_sem,hlen,ht,d0,d1,d2,d3,d4,d5,d6,d7,d8,z1,zSt_len,s0,s1,s2,sr,mins,mfind,cellEqK,seq8]
 refine(cmp_res H.logic_judge_compare xA.wf hR (r0.ext xA hwf) (r2.ext xA hwf) hb (f:=fun c=>decide (0<c)) (fun s c hw=>do3f_tells H.logic_Do_3 hw c)).mono ?_
 rintro w q9 ⟨x9,ha⟩
 have k9:=x9.keep
 have y9:=xA.trans x9
 have n9:=x9.nx
 try simp only at n9 k9
 have ha:=ha.toH (r2.ext y9 hwf)
 obtain⟨X,e',rfl,hX,hXs,hXt,hXz⟩:=ha.shape hR s0 s2
 have g:hget q9.h (st.nx+1)=some (.cells 457 true B.z457):=by
  rw[k9 _ (by omega)]
  simp (disch:=omega) [hget_cons,d0,d1,d2,d3,d4,d5,d6,d7,d8]
 simp (disch:=omega) [go_sem,reI,wanted,k9,hX,hXs,hXt,hXz,zSt_len,d0,d1,d2,d3,d4,d5,d6,d7,d8]
 have z:=Ext.setN (st:=st) (h:=q9.h) (m:=q9.nx) (n:=st.nx+1) (o:= .cells 457 true X) y9 (by omega)
 exact⟨z.dropLoc,AnsH.dropLoc (st:=⟨_,q9.nx⟩) (ha.hset g rfl) z.wf⟩
theorem do4f_tells (H:B.H_logic_Do_4 T) (hwf:st.Wf) (c:Int):Tells T st (.fn 333 [] []) [.int .i64 c] (.bool ((fun c=>decide (0≤c)) c)):=by
 refine tells_of H.e H.f rfl ?_
 simp[B.logic_Do_4,go_sem]
 exact Ext.refl hwf
theorem do_ge (H:B.H_logic_Do T) (hwf:st.Wf) {v0 v1 v2:AV} {r:List AV} (hR:Rest v1 r) {ops:List Ob} {hp:List Ce} (r0:RdO st.h v0 ops) (r2:HpR st.h v2 hp) (hb:ops.length<1000000) (hs:HpS hp) (hpw:Pow st) (hbr:Bru st):
  CRes (call T (.fn 308 [] []) [.agg (v0::v1::v2::r),.str [103,101]] st) fun w s=>Ext st s∧AnsH s w v0 v1 v2 r (cmpR ops hp fun c=>decide (0≤c)).1 (cmpR ops hp fun c=>decide (0≤c)).2 hp:=by
 refine call_res H.e H.f rfl ?_
 have hlen:=hR.len
 have ht:=hR.take
 have s0:=RdS.sc r0
 have s1:=hR.sc
 have s2:=r2.sc
 have sr:=hR.all
 have z1:∀v,splice B.z457 0 (v::v1::v2::r)=v::v1::v2::r:=fun v=>splice_len (by rw[hR.len67,zSt_len])
 have d0:¬st.nx+1+1=st.nx:=by omega
 have d1:¬st.nx+1+1=st.nx+1:=by omega
 have d2:¬st.nx+1+1+1=st.nx:=by omega
 have d3:¬st.nx+1+1+1=st.nx+1:=by omega
 have d4:¬st.nx+1+1+1=st.nx+1+1:=by omega
 have d5:¬st.nx+1+1+1+1=st.nx:=by omega
 have d6:¬st.nx+1+1+1+1=st.nx+1:=by omega
 have d7:¬st.nx+1+1+1+1=st.nx+1+1:=by omega
 have d8:¬st.nx+1+1+1+1=st.nx+1+1+1:=by omega
 have xA:=((((Ext.refl hwf).consN (o:= .cells 457 true (v0::v1::v2::r)) (Nat.lt_succ_self st.nx)).consN (o:= .cells 457 true B.z457) (Nat.lt_succ_self (st.nx+1))).consN (o:= .cells 493 true (v0::v1::v2::r)) (Nat.lt_succ_self (st.nx+1+1))).consN (o:=(.map [(.str [108,116],.fn 330 [] []),(.str [108,101],.fn 331 [] []),(.str [103,116],.fn 332 [] []),(.str [103,101],.fn 333 [] [])])) (Nat.lt_succ_self (st.nx+1+1+1))
 simp (disch:=omega) [B.logic_Do,go_sem,hlen,ht,d0,d1,d2,d3,d4,d5,d6,d7,d8,z1,zSt_len,s0,s1,s2,sr,mins,mfind,cellEqK,seq8]
 refine(cmp_res H.logic_judge_compare xA.wf hR (r0.ext xA hwf) (r2.ext xA hwf) hb (f:=fun c=>decide (0≤c)) (fun s c hw=>do4f_tells H.logic_Do_4 hw c)).mono ?_
 rintro w q9 ⟨x9,ha⟩
 have k9:=x9.keep
 have y9:=xA.trans x9
 have n9:=x9.nx
 try simp only at n9 k9
 have ha:=ha.toH (r2.ext y9 hwf)
 obtain⟨X,e',rfl,hX,hXs,hXt,hXz⟩:=ha.shape hR s0 s2
 have g:hget q9.h (st.nx+1)=some (.cells 457 true B.z457):=by
  rw[k9 _ (by omega)]
  simp (disch:=omega) [hget_cons,d0,d1,d2,d3,d4,d5,d6,d7,d8]
 simp (disch:=omega) [go_sem,reI,wanted,k9,hX,hXs,hXt,hXz,zSt_len,d0,d1,d2,d3,d4,d5,d6,d7,d8]
 have z:=Ext.setN (st:=st) (h:=q9.h) (m:=q9.nx) (n:=st.nx+1) (o:= .cells 457 true X) y9 (by omega)
 exact⟨z.dropLoc,AnsH.dropLoc (st:=⟨_,q9.nx⟩) (ha.hset g rfl) z.wf⟩
theorem do5f_tells (H:B.H_logic_Do_5 T) (hwf:st.Wf) (a b:Int):Tells T st (.fn 335 [] []) [.int .i64 a,.int .i64 b] (.int .i64 (iand .i64 a b)):=by
 refine tells_of H.e H.f rfl ?_
 simp[B.logic_Do_5,go_sem]
 exact Ext.refl hwf
theorem do_and (H:B.H_logic_Do T) (hwf:st.Wf) {v0 v1 v2:AV} {r:List AV} (hR:Rest v1 r) {ops:List Ob} {hp:List Ce} (r0:RdO st.h v0 ops) (r2:HpR st.h v2 hp) (hb:ops.length<1000000) (hs:HpS hp) (hpw:Pow st) (hbr:Bru st):
  CRes (call T (.fn 308 [] []) [.agg (v0::v1::v2::r),.str [97,110,100]] st) fun w s=>Ext st s∧AnsH s w v0 v1 v2 r (bitsR ops (iand .i64)).1 (bitsR ops (iand .i64)).2 hp:=by
 refine call_res H.e H.f rfl ?_
 have hlen:=hR.len
 have ht:=hR.take
 have s0:=RdS.sc r0
 have s1:=hR.sc
 have s2:=r2.sc
 have sr:=hR.all
 have z1:∀v,splice B.z457 0 (v::v1::v2::r)=v::v1::v2::r:=fun v=>splice_len (by rw[hR.len67,zSt_len])
 have d0:¬st.nx+1+1=st.nx:=by omega
 have d1:¬st.nx+1+1=st.nx+1:=by omega
 have d2:¬st.nx+1+1+1=st.nx:=by omega
 have d3:¬st.nx+1+1+1=st.nx+1:=by omega
 have d4:¬st.nx+1+1+1=st.nx+1+1:=by omega
 have d5:¬st.nx+1+1+1+1=st.nx:=by omega
 have d6:¬st.nx+1+1+1+1=st.nx+1:=by omega
 have d7:¬st.nx+1+1+1+1=st.nx+1+1:=by omega
 have d8:¬st.nx+1+1+1+1=st.nx+1+1+1:=by omega
 have xA:=((((Ext.refl hwf).consN (o:= .cells 457 true (v0::v1::v2::r)) (Nat.lt_succ_self st.nx)).consN (o:= .cells 457 true B.z457) (Nat.lt_succ_self (st.nx+1))).consN (o:= .cells 493 true (v0::v1::v2::r)) (Nat.lt_succ_self (st.nx+1+1))).consN (o:=(.map [(.str [108,116],.fn 330 [] []),(.str [108,101],.fn 331 [] []),(.str [103,116],.fn 332 [] []),(.str [103,101],.fn 333 [] [])])) (Nat.lt_succ_self (st.nx+1+1+1))
 have xB:=xA.consN (o:=(.map [(.str [97,110,100],.fn 335 [] []),(.str [111,114],.fn 336 [] []),(.str [120,111,114],.fn 337 [] [])])) (Nat.lt_succ_self (st.nx+1+1+1+1))
 simp (disch:=omega) [B.logic_Do,go_sem,hlen,ht,d0,d1,d2,d3,d4,d5,d6,d7,d8,z1,zSt_len,s0,s1,s2,sr,mins,mfind,cellEqK,seq8]
 refine(bits_res H.logic_judge_bits xB.wf hR (r0.ext xB hwf) (r2.ext xB hwf) hb (F:=iand .i64) (fun s a b hw=>do5f_tells H.logic_Do_5 hw a b)).mono ?_
 rintro w q9 ⟨x9,ha⟩
 have k9:=x9.keep
 have y9:=xB.trans x9
 have n9:=x9.nx
 try simp only at n9 k9
 have ha:=ha.toH (r2.ext y9 hwf)
 obtain⟨X,e',rfl,hX,hXs,hXt,hXz⟩:=ha.shape hR s0 s2
 have g:hget q9.h (st.nx+1)=some (.cells 457 true B.z457):=by
  rw[k9 _ (by omega)]
  simp (disch:=omega) [hget_cons,d0,d1,d2,d3,d4,d5,d6,d7,d8]
 simp (disch:=omega) [go_sem,reI,wanted,k9,hX,hXs,hXt,hXz,zSt_len,d0,d1,d2,d3,d4,d5,d6,d7,d8]
 have z:=Ext.setN (st:=st) (h:=q9.h) (m:=q9.nx) (n:=st.nx+1) (o:= .cells 457 true X) y9 (by omega)
 exact⟨z.dropLoc,AnsH.dropLoc (st:=⟨_,q9.nx⟩) (ha.hset g rfl) z.wf⟩
theorem do6f_tells (H:B.H_logic_Do_6 T) (hwf:st.Wf) (a b:Int):Tells T st (.fn 336 [] []) [.int .i64 a,.int .i64 b] (.int .i64 (ior .i64 a b)):=by
 refine tells_of H.e H.f rfl ?_
 simp[B.logic_Do_6,go_sem]
 exact Ext.refl hwf
theorem do_or (H:B.H_logic_Do T) (hwf:st.Wf) {v0 v1 v2:AV} {r:List AV} (hR:Rest v1 r) {ops:List Ob} {hp:List Ce} (r0:RdO st.h v0 ops) (r2:HpR st.h v2 hp) (hb:ops.length<1000000) (hs:HpS hp) (hpw:Pow st) (hbr:Bru st):
  CRes (call T (.fn 308 [] []) [.agg (v0::v1::v2::r),.str [111,114]] st) fun w s=>Ext st s∧AnsH s w v0 v1 v2 r (bitsR ops (ior .i64)).1 (bitsR ops (ior .i64)).2 hp:=by
 refine call_res H.e H.f rfl ?_
 have hlen:=hR.len
 have ht:=hR.take
 have s0:=RdS.sc r0
 have s1:=hR.sc
 have s2:=r2.sc
 have sr:=hR.all
 have z1:∀v,splice B.z457 0 (v::v1::v2::r)=v::v1::v2::r:=fun v=>splice_len (by rw[hR.len67,zSt_len])
 have d0:¬st.nx+1+1=st.nx:=by omega
 have d1:¬st.nx+1+1=st.nx+1:=by omega
 have d2:¬st.nx+1+1+1=st.nx:=by omega
 have d3:¬st.nx+1+1+1=st.nx+1:=by omega
 have d4:¬st.nx+1+1+1=st.nx+1+1:=by omega
 have d5:¬st.nx+1+1+1+1=st.nx:=by omega
 have d6:¬st.nx+1+1+1+1=st.nx+1:=by omega
 have d7:¬st.nx+1+1+1+1=st.nx+1+1:=by omega
 have d8:¬st.nx+1+1+1+1=st.nx+1+1+1:=by omega
 have xA:=((((Ext.refl hwf).consN (o:= .cells 457 true (v0::v1::v2::r)) (Nat.lt_succ_self st.nx)).consN (o:= .cells 457 true B.z457) (Nat.lt_succ_self (st.nx+1))).consN (o:= .cells 493 true (v0::v1::v2::r)) (Nat.lt_succ_self (st.nx+1+1))).consN (o:=(.map [(.str [108,116],.fn 330 [] []),(.str [108,101],.fn 331 [] []),(.str [103,116],.fn 332 [] []),(.str [103,101],.fn 333 [] [])])) (Nat.lt_succ_self (st.nx+1+1+1))
 have xB:=xA.consN (o:=(.map [(.str [97,110,100],.fn 335 [] []),(.str [111,114],.fn 336 [] []),(.str [120,111,114],.fn 337 [] [])])) (Nat.lt_succ_self (st.nx+1+1+1+1))
 simp (disch:=omega) [B.logic_Do,go_sem,hlen,ht,d0,d1,d2,d3,d4,d5,d6,d7,d8,z1,zSt_len,s0,s1,s2,sr,mins,mfind,cellEqK,seq8]
 refine(bits_res H.logic_judge_bits xB.wf hR (r0.ext xB hwf) (r2.ext xB hwf) hb (F:=ior .i64) (fun s a b hw=>do6f_tells H.logic_Do_6 hw a b)).mono ?_
 rintro w q9 ⟨x9,ha⟩
 have k9:=x9.keep
 have y9:=xB.trans x9
 have n9:=x9.nx
 try simp only at n9 k9
 have ha:=ha.toH (r2.ext y9 hwf)
 obtain⟨X,e',rfl,hX,hXs,hXt,hXz⟩:=ha.shape hR s0 s2
 have g:hget q9.h (st.nx+1)=some (.cells 457 true B.z457):=by
  rw[k9 _ (by omega)]
  simp (disch:=omega) [hget_cons,d0,d1,d2,d3,d4,d5,d6,d7,d8]
 simp (disch:=omega) [go_sem,reI,wanted,k9,hX,hXs,hXt,hXz,zSt_len,d0,d1,d2,d3,d4,d5,d6,d7,d8]
 have z:=Ext.setN (st:=st) (h:=q9.h) (m:=q9.nx) (n:=st.nx+1) (o:= .cells 457 true X) y9 (by omega)
 exact⟨z.dropLoc,AnsH.dropLoc (st:=⟨_,q9.nx⟩) (ha.hset g rfl) z.wf⟩
theorem do7f_tells (H:B.H_logic_Do_7 T) (hwf:st.Wf) (a b:Int):Tells T st (.fn 337 [] []) [.int .i64 a,.int .i64 b] (.int .i64 (ixor .i64 a b)):=by
 refine tells_of H.e H.f rfl ?_
 simp[B.logic_Do_7,go_sem]
 exact Ext.refl hwf
theorem do_xor (H:B.H_logic_Do T) (hwf:st.Wf) {v0 v1 v2:AV} {r:List AV} (hR:Rest v1 r) {ops:List Ob} {hp:List Ce} (r0:RdO st.h v0 ops) (r2:HpR st.h v2 hp) (hb:ops.length<1000000) (hs:HpS hp) (hpw:Pow st) (hbr:Bru st):
  CRes (call T (.fn 308 [] []) [.agg (v0::v1::v2::r),.str [120,111,114]] st) fun w s=>Ext st s∧AnsH s w v0 v1 v2 r (bitsR ops (ixor .i64)).1 (bitsR ops (ixor .i64)).2 hp:=by
 refine call_res H.e H.f rfl ?_
 have hlen:=hR.len
 have ht:=hR.take
 have s0:=RdS.sc r0
 have s1:=hR.sc
 have s2:=r2.sc
 have sr:=hR.all
 have z1:∀v,splice B.z457 0 (v::v1::v2::r)=v::v1::v2::r:=fun v=>splice_len (by rw[hR.len67,zSt_len])
 have d0:¬st.nx+1+1=st.nx:=by omega
 have d1:¬st.nx+1+1=st.nx+1:=by omega
 have d2:¬st.nx+1+1+1=st.nx:=by omega
 have d3:¬st.nx+1+1+1=st.nx+1:=by omega
 have d4:¬st.nx+1+1+1=st.nx+1+1:=by omega
 have d5:¬st.nx+1+1+1+1=st.nx:=by omega
 have d6:¬st.nx+1+1+1+1=st.nx+1:=by omega
 have d7:¬st.nx+1+1+1+1=st.nx+1+1:=by omega
 have d8:¬st.nx+1+1+1+1=st.nx+1+1+1:=by omega
 have xA:=((((Ext.refl hwf).consN (o:= .cells 457 true (v0::v1::v2::r)) (Nat.lt_succ_self st.nx)).consN (o:= .cells 457 true B.z457) (Nat.lt_succ_self (st.nx+1))).consN (o:= .cells 493 true (v0::v1::v2::r)) (Nat.lt_succ_self (st.nx+1+1))).consN (o:=(.map [(.str [108,116],.fn 330 [] []),(.str [108,101],.fn 331 [] []),(.str [103,116],.fn 332 [] []),(.str [103,101],.fn 333 [] [])])) (Nat.lt_succ_self (st.nx+1+1+1))
 have xB:=xA.consN (o:=(.map [(.str [97,110,100],.fn 335 [] []),(.str [111,114],.fn 336 [] []),(.str [120,111,114],.fn 337 [] [])])) (Nat.lt_succ_self (st.nx+1+1+1+1))
 simp (disch:=omega) [B.logic_Do,go_sem,hlen,ht,d0,d1,d2,d3,d4,d5,d6,d7,d8,z1,zSt_len,s0,s1,s2,sr,mins,mfind,cellEqK,seq8]
 refine(bits_res H.logic_judge_bits xB.wf hR (r0.ext xB hwf) (r2.ext xB hwf) hb (F:=ixor .i64) (fun s a b hw=>do7f_tells H.logic_Do_7 hw a b)).mono ?_
 rintro w q9 ⟨x9,ha⟩
 have k9:=x9.keep
 have y9:=xB.trans x9
 have n9:=x9.nx
 try simp only at n9 k9
 have ha:=ha.toH (r2.ext y9 hwf)
 obtain⟨X,e',rfl,hX,hXs,hXt,hXz⟩:=ha.shape hR s0 s2
 have g:hget q9.h (st.nx+1)=some (.cells 457 true B.z457):=by
  rw[k9 _ (by omega)]
  simp (disch:=omega) [hget_cons,d0,d1,d2,d3,d4,d5,d6,d7,d8]
 simp (disch:=omega) [go_sem,reI,wanted,k9,hX,hXs,hXt,hXz,zSt_len,d0,d1,d2,d3,d4,d5,d6,d7,d8]
 have z:=Ext.setN (st:=st) (h:=q9.h) (m:=q9.nx) (n:=st.nx+1) (o:= .cells 457 true X) y9 (by omega)
 exact⟨z.dropLoc,AnsH.dropLoc (st:=⟨_,q9.nx⟩) (ha.hset g rfl) z.wf⟩
theorem do_eq (H:B.H_logic_Do T) (hwf:st.Wf) {v0 v1 v2:AV} {r:List AV} (hR:Rest v1 r) {ops:List Ob} {hp:List Ce} (r0:RdO st.h v0 ops) (r2:HpR st.h v2 hp) (hb:ops.length<1000000) (hs:HpS hp) (hpw:Pow st) (hbr:Bru st):
  CRes (call T (.fn 308 [] []) [.agg (v0::v1::v2::r),.str [101,113]] st) fun w s=>Ext st s∧AnsH s w v0 v1 v2 r (sameR ops hp true).1 (sameR ops hp true).2 hp:=by
 refine call_res H.e H.f rfl ?_
 have hlen:=hR.len
 have ht:=hR.take
 have s0:=RdS.sc r0
 have s1:=hR.sc
 have s2:=r2.sc
 have sr:=hR.all
 have z1:∀v,splice B.z457 0 (v::v1::v2::r)=v::v1::v2::r:=fun v=>splice_len (by rw[hR.len67,zSt_len])
 have d0:¬st.nx+1+1=st.nx:=by omega
 have d1:¬st.nx+1+1=st.nx+1:=by omega
 have d2:¬st.nx+1+1+1=st.nx:=by omega
 have d3:¬st.nx+1+1+1=st.nx+1:=by omega
 have d4:¬st.nx+1+1+1=st.nx+1+1:=by omega
 have d5:¬st.nx+1+1+1+1=st.nx:=by omega
 have d6:¬st.nx+1+1+1+1=st.nx+1:=by omega
 have d7:¬st.nx+1+1+1+1=st.nx+1+1:=by omega
 have d8:¬st.nx+1+1+1+1=st.nx+1+1+1:=by omega
 have xA:=((((Ext.refl hwf).consN (o:= .cells 457 true (v0::v1::v2::r)) (Nat.lt_succ_self st.nx)).consN (o:= .cells 457 true B.z457) (Nat.lt_succ_self (st.nx+1))).consN (o:= .cells 493 true (v0::v1::v2::r)) (Nat.lt_succ_self (st.nx+1+1))).consN (o:=(.map [(.str [108,116],.fn 330 [] []),(.str [108,101],.fn 331 [] []),(.str [103,116],.fn 332 [] []),(.str [103,101],.fn 333 [] [])])) (Nat.lt_succ_self (st.nx+1+1+1))
 have xB:=xA.consN (o:=(.map [(.str [97,110,100],.fn 335 [] []),(.str [111,114],.fn 336 [] []),(.str [120,111,114],.fn 337 [] [])])) (Nat.lt_succ_self (st.nx+1+1+1+1))
 simp (disch:=omega) [B.logic_Do,go_sem,hlen,ht,d0,d1,d2,d3,d4,d5,d6,d7,d8,z1,zSt_len,s0,s1,s2,sr,mins,mfind,cellEqK,seq8]
 refine(same_res H.logic_judge_same xB.wf hR (r0.ext xB hwf) (r2.ext xB hwf) hb true).mono ?_
 rintro w q9 ⟨x9,ha⟩
 have k9:=x9.keep
 have y9:=xB.trans x9
 have n9:=x9.nx
 try simp only at n9 k9
 have ha:=ha.toH (r2.ext y9 hwf)
 obtain⟨X,e',rfl,hX,hXs,hXt,hXz⟩:=ha.shape hR s0 s2
 have g:hget q9.h (st.nx+1)=some (.cells 457 true B.z457):=by
  rw[k9 _ (by omega)]
  simp (disch:=omega) [hget_cons,d0,d1,d2,d3,d4,d5,d6,d7,d8]
 simp (disch:=omega) [go_sem,reI,wanted,k9,hX,hXs,hXt,hXz,zSt_len,d0,d1,d2,d3,d4,d5,d6,d7,d8]
 have z:=Ext.setN (st:=st) (h:=q9.h) (m:=q9.nx) (n:=st.nx+1) (o:= .cells 457 true X) y9 (by omega)
 exact⟨z.dropLoc,AnsH.dropLoc (st:=⟨_,q9.nx⟩) (ha.hset g rfl) z.wf⟩
theorem do_ne (H:B.H_logic_Do T) (hwf:st.Wf) {v0 v1 v2:AV} {r:List AV} (hR:Rest v1 r) {ops:List Ob} {hp:List Ce} (r0:RdO st.h v0 ops) (r2:HpR st.h v2 hp) (hb:ops.length<1000000) (hs:HpS hp) (hpw:Pow st) (hbr:Bru st):
  CRes (call T (.fn 308 [] []) [.agg (v0::v1::v2::r),.str [110,101]] st) fun w s=>Ext st s∧AnsH s w v0 v1 v2 r (sameR ops hp false).1 (sameR ops hp false).2 hp:=by
 refine call_res H.e H.f rfl ?_
 have hlen:=hR.len
 have ht:=hR.take
 have s0:=RdS.sc r0
 have s1:=hR.sc
 have s2:=r2.sc
 have sr:=hR.all
 have z1:∀v,splice B.z457 0 (v::v1::v2::r)=v::v1::v2::r:=fun v=>splice_len (by rw[hR.len67,zSt_len])
 have d0:¬st.nx+1+1=st.nx:=by omega
 have d1:¬st.nx+1+1=st.nx+1:=by omega
 have d2:¬st.nx+1+1+1=st.nx:=by omega
 have d3:¬st.nx+1+1+1=st.nx+1:=by omega
 have d4:¬st.nx+1+1+1=st.nx+1+1:=by omega
 have d5:¬st.nx+1+1+1+1=st.nx:=by omega
 have d6:¬st.nx+1+1+1+1=st.nx+1:=by omega
 have d7:¬st.nx+1+1+1+1=st.nx+1+1:=by omega
 have d8:¬st.nx+1+1+1+1=st.nx+1+1+1:=by omega
 have xA:=((((Ext.refl hwf).consN (o:= .cells 457 true (v0::v1::v2::r)) (Nat.lt_succ_self st.nx)).consN (o:= .cells 457 true B.z457) (Nat.lt_succ_self (st.nx+1))).consN (o:= .cells 493 true (v0::v1::v2::r)) (Nat.lt_succ_self (st.nx+1+1))).consN (o:=(.map [(.str [108,116],.fn 330 [] []),(.str [108,101],.fn 331 [] []),(.str [103,116],.fn 332 [] []),(.str [103,101],.fn 333 [] [])])) (Nat.lt_succ_self (st.nx+1+1+1))
 have xB:=xA.consN (o:=(.map [(.str [97,110,100],.fn 335 [] []),(.str [111,114],.fn 336 [] []),(.str [120,111,114],.fn 337 [] [])])) (Nat.lt_succ_self (st.nx+1+1+1+1))
 simp (disch:=omega) [B.logic_Do,go_sem,hlen,ht,d0,d1,d2,d3,d4,d5,d6,d7,d8,z1,zSt_len,s0,s1,s2,sr,mins,mfind,cellEqK,seq8]
 refine(same_res H.logic_judge_same xB.wf hR (r0.ext xB hwf) (r2.ext xB hwf) hb false).mono ?_
 rintro w q9 ⟨x9,ha⟩
 have k9:=x9.keep
 have y9:=xB.trans x9
 have n9:=x9.nx
 try simp only at n9 k9
 have ha:=ha.toH (r2.ext y9 hwf)
 obtain⟨X,e',rfl,hX,hXs,hXt,hXz⟩:=ha.shape hR s0 s2
 have g:hget q9.h (st.nx+1)=some (.cells 457 true B.z457):=by
  rw[k9 _ (by omega)]
  simp (disch:=omega) [hget_cons,d0,d1,d2,d3,d4,d5,d6,d7,d8]
 simp (disch:=omega) [go_sem,reI,wanted,k9,hX,hXs,hXt,hXz,zSt_len,d0,d1,d2,d3,d4,d5,d6,d7,d8]
 have z:=Ext.setN (st:=st) (h:=q9.h) (m:=q9.nx) (n:=st.nx+1) (o:= .cells 457 true X) y9 (by omega)
 exact⟨z.dropLoc,AnsH.dropLoc (st:=⟨_,q9.nx⟩) (ha.hset g rfl) z.wf⟩
theorem do_not (H:B.H_logic_Do T) (hwf:st.Wf) {v0 v1 v2:AV} {r:List AV} (hR:Rest v1 r) {ops:List Ob} {hp:List Ce} (r0:RdO st.h v0 ops) (r2:HpR st.h v2 hp) (hb:ops.length<1000000) (hs:HpS hp) (hpw:Pow st) (hbr:Bru st):
  CRes (call T (.fn 308 [] []) [.agg (v0::v1::v2::r),.str [110,111,116]] st) fun w s=>Ext st s∧AnsH s w v0 v1 v2 r (notR ops).1 (notR ops).2 hp:=by
 refine call_res H.e H.f rfl ?_
 have hlen:=hR.len
 have ht:=hR.take
 have s0:=RdS.sc r0
 have s1:=hR.sc
 have s2:=r2.sc
 have sr:=hR.all
 have z1:∀v,splice B.z457 0 (v::v1::v2::r)=v::v1::v2::r:=fun v=>splice_len (by rw[hR.len67,zSt_len])
 have d0:¬st.nx+1+1=st.nx:=by omega
 have d1:¬st.nx+1+1=st.nx+1:=by omega
 have d2:¬st.nx+1+1+1=st.nx:=by omega
 have d3:¬st.nx+1+1+1=st.nx+1:=by omega
 have d4:¬st.nx+1+1+1=st.nx+1+1:=by omega
 have d5:¬st.nx+1+1+1+1=st.nx:=by omega
 have d6:¬st.nx+1+1+1+1=st.nx+1:=by omega
 have d7:¬st.nx+1+1+1+1=st.nx+1+1:=by omega
 have d8:¬st.nx+1+1+1+1=st.nx+1+1+1:=by omega
 have xA:=((((Ext.refl hwf).consN (o:= .cells 457 true (v0::v1::v2::r)) (Nat.lt_succ_self st.nx)).consN (o:= .cells 457 true B.z457) (Nat.lt_succ_self (st.nx+1))).consN (o:= .cells 493 true (v0::v1::v2::r)) (Nat.lt_succ_self (st.nx+1+1))).consN (o:=(.map [(.str [108,116],.fn 330 [] []),(.str [108,101],.fn 331 [] []),(.str [103,116],.fn 332 [] []),(.str [103,101],.fn 333 [] [])])) (Nat.lt_succ_self (st.nx+1+1+1))
 have xB:=xA.consN (o:=(.map [(.str [97,110,100],.fn 335 [] []),(.str [111,114],.fn 336 [] []),(.str [120,111,114],.fn 337 [] [])])) (Nat.lt_succ_self (st.nx+1+1+1+1))
 simp (disch:=omega) [B.logic_Do,go_sem,hlen,ht,d0,d1,d2,d3,d4,d5,d6,d7,d8,z1,zSt_len,s0,s1,s2,sr,mins,mfind,cellEqK,seq8]
 refine(not_res H.logic_judge_not xB.wf hR (r0.ext xB hwf) (r2.ext xB hwf) hb).mono ?_
 rintro w q9 ⟨x9,ha⟩
 have k9:=x9.keep
 have y9:=xB.trans x9
 have n9:=x9.nx
 try simp only at n9 k9
 have ha:=ha.toH (r2.ext y9 hwf)
 obtain⟨X,e',rfl,hX,hXs,hXt,hXz⟩:=ha.shape hR s0 s2
 have g:hget q9.h (st.nx+1)=some (.cells 457 true B.z457):=by
  rw[k9 _ (by omega)]
  simp (disch:=omega) [hget_cons,d0,d1,d2,d3,d4,d5,d6,d7,d8]
 simp (disch:=omega) [go_sem,reI,wanted,k9,hX,hXs,hXt,hXz,zSt_len,d0,d1,d2,d3,d4,d5,d6,d7,d8]
 have z:=Ext.setN (st:=st) (h:=q9.h) (m:=q9.nx) (n:=st.nx+1) (o:= .cells 457 true X) y9 (by omega)
 exact⟨z.dropLoc,AnsH.dropLoc (st:=⟨_,q9.nx⟩) (ha.hset g rfl) z.wf⟩
theorem do_bitshift (H:B.H_logic_Do T) (hwf:st.Wf) {v0 v1 v2:AV} {r:List AV} (hR:Rest v1 r) {ops:List Ob} {hp:List Ce} (r0:RdO st.h v0 ops) (r2:HpR st.h v2 hp) (hb:ops.length<1000000) (hs:HpS hp) (hpw:Pow st) (hbr:Bru st):
  CRes (call T (.fn 308 [] []) [.agg (v0::v1::v2::r),.str [98,105,116,115,104,105,102,116]] st) fun w s=>Ext st s∧AnsH s w v0 v1 v2 r (shiftR ops).1 (shiftR ops).2 hp:=by
 refine call_res H.e H.f rfl ?_
 have hlen:=hR.len
 have ht:=hR.take
 have s0:=RdS.sc r0
 have s1:=hR.sc
 have s2:=r2.sc
 have sr:=hR.all
 have z1:∀v,splice B.z457 0 (v::v1::v2::r)=v::v1::v2::r:=fun v=>splice_len (by rw[hR.len67,zSt_len])
 have d0:¬st.nx+1+1=st.nx:=by omega
 have d1:¬st.nx+1+1=st.nx+1:=by omega
 have d2:¬st.nx+1+1+1=st.nx:=by omega
 have d3:¬st.nx+1+1+1=st.nx+1:=by omega
 have d4:¬st.nx+1+1+1=st.nx+1+1:=by omega
 have d5:¬st.nx+1+1+1+1=st.nx:=by omega
 have d6:¬st.nx+1+1+1+1=st.nx+1:=by omega
 have d7:¬st.nx+1+1+1+1=st.nx+1+1:=by omega
 have d8:¬st.nx+1+1+1+1=st.nx+1+1+1:=by omega
 have xA:=((((Ext.refl hwf).consN (o:= .cells 457 true (v0::v1::v2::r)) (Nat.lt_succ_self st.nx)).consN (o:= .cells 457 true B.z457) (Nat.lt_succ_self (st.nx+1))).consN (o:= .cells 493 true (v0::v1::v2::r)) (Nat.lt_succ_self (st.nx+1+1))).consN (o:=(.map [(.str [108,116],.fn 330 [] []),(.str [108,101],.fn 331 [] []),(.str [103,116],.fn 332 [] []),(.str [103,101],.fn 333 [] [])])) (Nat.lt_succ_self (st.nx+1+1+1))
 have xB:=xA.consN (o:=(.map [(.str [97,110,100],.fn 335 [] []),(.str [111,114],.fn 336 [] []),(.str [120,111,114],.fn 337 [] [])])) (Nat.lt_succ_self (st.nx+1+1+1+1))
 simp (disch:=omega) [B.logic_Do,go_sem,hlen,ht,d0,d1,d2,d3,d4,d5,d6,d7,d8,z1,zSt_len,s0,s1,s2,sr,mins,mfind,cellEqK,seq8]
 refine(shift_res H.logic_judge_bitshift xB.wf hR (r0.ext xB hwf) (r2.ext xB hwf) hb).mono ?_
 rintro w q9 ⟨x9,ha⟩
 have k9:=x9.keep
 have y9:=xB.trans x9
 have n9:=x9.nx
 try simp only at n9 k9
 have ha:=ha.toH (r2.ext y9 hwf)
 obtain⟨X,e',rfl,hX,hXs,hXt,hXz⟩:=ha.shape hR s0 s2
 have g:hget q9.h (st.nx+1)=some (.cells 457 true B.z457):=by
  rw[k9 _ (by omega)]
  simp (disch:=omega) [hget_cons,d0,d1,d2,d3,d4,d5,d6,d7,d8]
 simp (disch:=omega) [go_sem,reI,wanted,k9,hX,hXs,hXt,hXz,zSt_len,d0,d1,d2,d3,d4,d5,d6,d7,d8]
 have z:=Ext.setN (st:=st) (h:=q9.h) (m:=q9.nx) (n:=st.nx+1) (o:= .cells 457 true X) y9 (by omega)
 exact⟨z.dropLoc,AnsH.dropLoc (st:=⟨_,q9.nx⟩) (ha.hset g rfl) z.wf⟩
end Go.Ev

/- Do told: the other operators. -/
namespace Go.Ev
open Go
variable {T : Tab} {st st' : St}
theorem push_ans (H:B.H_stack_Push T) (hwf:st.Wf) {v0 v1 v2:AV} {r:List AV} (hR:Rest v1 r) {ops:List Ob} {hp:List Ce} (r0:RdO st.h v0 ops) (r2:HpR st.h v2 hp) (hb:ops.length<1000000) {vl:AV} {o:Ob} (hl:RdO st.h vl [o]):
  CRes (call T (.fn 344 [] []) [.agg (v0::v1::v2::r),vl] st) fun w s=>Ext st s∧Ans s w v0 v1 v2 r (pushR ops o).1 (pushR ops o).2:=by
 refine(push_res H hwf hR r0 r2 hl ⟨hb,by simp⟩).mono ?_
 rintro w s ⟨x,⟨h,rfl⟩ | ⟨h,v',rfl,hv⟩⟩
 ·refine⟨x,.inl ⟨?_,?_⟩⟩
  ·simp only[pushR,List.length_singleton]at h⊢;rw[if_pos h];decide
  ·simp only[pushR,List.length_singleton]at h⊢;rw[if_pos h]
 ·refine⟨x,.inr ⟨?_,v',rfl,hv⟩⟩
  simp only[pushR,List.length_singleton]at h⊢;rw[if_neg (by omega)]
theorem do_true (H:B.H_logic_Do T) (hwf:st.Wf) {v0 v1 v2:AV} {r:List AV} (hR:Rest v1 r) {ops:List Ob} {hp:List Ce} (r0:RdO st.h v0 ops) (r2:HpR st.h v2 hp) (hb:ops.length<1000000) (hs:HpS hp) (hpw:Pow st) (hbr:Bru st):
  CRes (call T (.fn 308 [] []) [.agg (v0::v1::v2::r),.str [116,114,117,101]] st) fun w s=>Ext st s∧AnsH s w v0 v1 v2 r (pushR ops (obBool true)).1 (pushR ops (obBool true)).2 hp:=by
 refine call_res H.e H.f rfl ?_
 have hlen:=hR.len
 have ht:=hR.take
 have s0:=RdS.sc r0
 have s1:=hR.sc
 have s2:=r2.sc
 have sr:=hR.all
 have z1:∀v,splice B.z457 0 (v::v1::v2::r)=v::v1::v2::r:=fun v=>splice_len (by rw[hR.len67,zSt_len])
 have d0:¬st.nx+1+1=st.nx:=by omega
 have d1:¬st.nx+1+1=st.nx+1:=by omega
 have d2:¬st.nx+1+1+1=st.nx:=by omega
 have d3:¬st.nx+1+1+1=st.nx+1:=by omega
 have d4:¬st.nx+1+1+1=st.nx+1+1:=by omega
 have d5:¬st.nx+1+1+1+1=st.nx:=by omega
 have d6:¬st.nx+1+1+1+1=st.nx+1:=by omega
 have d7:¬st.nx+1+1+1+1=st.nx+1+1:=by omega
 have d8:¬st.nx+1+1+1+1=st.nx+1+1+1:=by omega
 have xA:=((((Ext.refl hwf).consN (o:= .cells 457 true (v0::v1::v2::r)) (Nat.lt_succ_self st.nx)).consN (o:= .cells 457 true B.z457) (Nat.lt_succ_self (st.nx+1))).consN (o:= .cells 493 true (v0::v1::v2::r)) (Nat.lt_succ_self (st.nx+1+1))).consN (o:=(.map [(.str [108,116],.fn 330 [] []),(.str [108,101],.fn 331 [] []),(.str [103,116],.fn 332 [] []),(.str [103,101],.fn 333 [] [])])) (Nat.lt_succ_self (st.nx+1+1+1))
 have xB:=xA.consN (o:=(.map [(.str [97,110,100],.fn 335 [] []),(.str [111,114],.fn 336 [] []),(.str [120,111,114],.fn 337 [] [])])) (Nat.lt_succ_self (st.nx+1+1+1+1))
 simp (disch:=omega) [B.logic_Do,go_sem,hlen,ht,d0,d1,d2,d3,d4,d5,d6,d7,d8,z1,zSt_len,s0,s1,s2,sr,mins,mfind,cellEqK,seq8]
 have y1:=xB.upN (m:=st.nx+1+1+1+1+1+11) (by omega)
 refine(objBool_tells H.object_Bool y1.wf true).use fun q2 x2=> ?_
 have k2:=x2.keep
 have y2:=y1.trans x2
 have n2:=x2.nx
 simp only at k2 n2
 have f1:hget q2.h (st.nx+1+1+1+1+1)=none:=by
  rw[k2 _ (by omega)]
  simp only[hget_cons]
  rw[if_neg (by omega),if_neg (by omega),if_neg (by omega),if_neg (by omega),if_neg (by omega)]
  cases hq:hget st.h (st.nx+1+1+1+1+1)with
  | none=>rfl
  | some q=>have:=hwf.lt _ _ hq;omega
 have y3:=Ext.consF (st:=st) (h:=q2.h) (m:=q2.nx) y2 f1 (by omega) (by omega) (o:= .cells 451 false (obBool true).A)
 have e1:¬st.nx+1+1+1+1+1=st.nx:=by omega
 have e2:¬st.nx+1+1+1+1+1=st.nx+1:=by omega
 have e3:¬st.nx+1+1+1+1+1=st.nx+1+1:=by omega
 have ho:=one_obs (obBool true) q2.h (st.nx+1+1+1+1+1)
 simp (disch:=omega) [go_sem,reI,wanted,k2,hlen,ht,B.zOb,e1,e2,e3,d0,d1,d2,d3,d4,d5,d6,d7,d8]
 refine(push_ans H.stack_Push y3.wf hR (r0.ext y3 hwf) (r2.ext y3 hwf) hb ho).mono ?_
 rintro w q9 ⟨x9,ha⟩
 have k9:=x9.keep
 have y9:=y3.trans x9
 have n9:=x9.nx
 try simp only at n9 k9
 have ha:=ha.toH (r2.ext y9 hwf)
 obtain⟨X,e',rfl,hX,hXs,hXt,hXz⟩:=ha.shape hR s0 s2
 have g:hget q9.h (st.nx+1)=some (.cells 457 true B.z457):=by
  rw[k9 _ (by omega)]
  simp (disch:=omega) [k2,hget_cons,d0,d1,d2,d3,d4,d5,d6,d7,d8,e1,e2,e3]
 simp (disch:=omega) [go_sem,reI,wanted,k9,k2,hX,hXs,hXt,hXz,zSt_len,d0,d1,d2,d3,d4,d5,d6,d7,d8,e1,e2,e3]
 have z:=Ext.setN (st:=st) (h:=q9.h) (m:=q9.nx) (n:=st.nx+1) (o:= .cells 457 true X) y9 (by omega)
 exact⟨z.dropLoc,AnsH.dropLoc (st:=⟨_,q9.nx⟩) (ha.hset g rfl) z.wf⟩
theorem do_false (H:B.H_logic_Do T) (hwf:st.Wf) {v0 v1 v2:AV} {r:List AV} (hR:Rest v1 r) {ops:List Ob} {hp:List Ce} (r0:RdO st.h v0 ops) (r2:HpR st.h v2 hp) (hb:ops.length<1000000) (hs:HpS hp) (hpw:Pow st) (hbr:Bru st):
  CRes (call T (.fn 308 [] []) [.agg (v0::v1::v2::r),.str [102,97,108,115,101]] st) fun w s=>Ext st s∧AnsH s w v0 v1 v2 r (pushR ops (obBool false)).1 (pushR ops (obBool false)).2 hp:=by
 refine call_res H.e H.f rfl ?_
 have hlen:=hR.len
 have ht:=hR.take
 have s0:=RdS.sc r0
 have s1:=hR.sc
 have s2:=r2.sc
 have sr:=hR.all
 have z1:∀v,splice B.z457 0 (v::v1::v2::r)=v::v1::v2::r:=fun v=>splice_len (by rw[hR.len67,zSt_len])
 have d0:¬st.nx+1+1=st.nx:=by omega
 have d1:¬st.nx+1+1=st.nx+1:=by omega
 have d2:¬st.nx+1+1+1=st.nx:=by omega
 have d3:¬st.nx+1+1+1=st.nx+1:=by omega
 have d4:¬st.nx+1+1+1=st.nx+1+1:=by omega
 have d5:¬st.nx+1+1+1+1=st.nx:=by omega
 have d6:¬st.nx+1+1+1+1=st.nx+1:=by omega
 have d7:¬st.nx+1+1+1+1=st.nx+1+1:=by omega
 have d8:¬st.nx+1+1+1+1=st.nx+1+1+1:=by omega
 have xA:=((((Ext.refl hwf).consN (o:= .cells 457 true (v0::v1::v2::r)) (Nat.lt_succ_self st.nx)).consN (o:= .cells 457 true B.z457) (Nat.lt_succ_self (st.nx+1))).consN (o:= .cells 493 true (v0::v1::v2::r)) (Nat.lt_succ_self (st.nx+1+1))).consN (o:=(.map [(.str [108,116],.fn 330 [] []),(.str [108,101],.fn 331 [] []),(.str [103,116],.fn 332 [] []),(.str [103,101],.fn 333 [] [])])) (Nat.lt_succ_self (st.nx+1+1+1))
 have xB:=xA.consN (o:=(.map [(.str [97,110,100],.fn 335 [] []),(.str [111,114],.fn 336 [] []),(.str [120,111,114],.fn 337 [] [])])) (Nat.lt_succ_self (st.nx+1+1+1+1))
 simp (disch:=omega) [B.logic_Do,go_sem,hlen,ht,d0,d1,d2,d3,d4,d5,d6,d7,d8,z1,zSt_len,s0,s1,s2,sr,mins,mfind,cellEqK,seq8]
 have y1:=xB.upN (m:=st.nx+1+1+1+1+1+11) (by omega)
 refine(objBool_tells H.object_Bool y1.wf false).use fun q2 x2=> ?_
 have k2:=x2.keep
 have y2:=y1.trans x2
 have n2:=x2.nx
 simp only at k2 n2
 have f1:hget q2.h (st.nx+1+1+1+1+1)=none:=by
  rw[k2 _ (by omega)]
  simp only[hget_cons]
  rw[if_neg (by omega),if_neg (by omega),if_neg (by omega),if_neg (by omega),if_neg (by omega)]
  cases hq:hget st.h (st.nx+1+1+1+1+1)with
  | none=>rfl
  | some q=>have:=hwf.lt _ _ hq;omega
 have y3:=Ext.consF (st:=st) (h:=q2.h) (m:=q2.nx) y2 f1 (by omega) (by omega) (o:= .cells 451 false (obBool false).A)
 have e1:¬st.nx+1+1+1+1+1=st.nx:=by omega
 have e2:¬st.nx+1+1+1+1+1=st.nx+1:=by omega
 have e3:¬st.nx+1+1+1+1+1=st.nx+1+1:=by omega
 have ho:=one_obs (obBool false) q2.h (st.nx+1+1+1+1+1)
 simp (disch:=omega) [go_sem,reI,wanted,k2,hlen,ht,B.zOb,e1,e2,e3,d0,d1,d2,d3,d4,d5,d6,d7,d8]
 refine(push_ans H.stack_Push y3.wf hR (r0.ext y3 hwf) (r2.ext y3 hwf) hb ho).mono ?_
 rintro w q9 ⟨x9,ha⟩
 have k9:=x9.keep
 have y9:=y3.trans x9
 have n9:=x9.nx
 try simp only at n9 k9
 have ha:=ha.toH (r2.ext y9 hwf)
 obtain⟨X,e',rfl,hX,hXs,hXt,hXz⟩:=ha.shape hR s0 s2
 have g:hget q9.h (st.nx+1)=some (.cells 457 true B.z457):=by
  rw[k9 _ (by omega)]
  simp (disch:=omega) [k2,hget_cons,d0,d1,d2,d3,d4,d5,d6,d7,d8,e1,e2,e3]
 simp (disch:=omega) [go_sem,reI,wanted,k9,k2,hX,hXs,hXt,hXz,zSt_len,d0,d1,d2,d3,d4,d5,d6,d7,d8,e1,e2,e3]
 have z:=Ext.setN (st:=st) (h:=q9.h) (m:=q9.nx) (n:=st.nx+1) (o:= .cells 457 true X) y9 (by omega)
 exact⟨z.dropLoc,AnsH.dropLoc (st:=⟨_,q9.nx⟩) (ha.hset g rfl) z.wf⟩
theorem do_null (H:B.H_logic_Do T) (hwf:st.Wf) {v0 v1 v2:AV} {r:List AV} (hR:Rest v1 r) {ops:List Ob} {hp:List Ce} (r0:RdO st.h v0 ops) (r2:HpR st.h v2 hp) (hb:ops.length<1000000) (hs:HpS hp) (hpw:Pow st) (hbr:Bru st):
  CRes (call T (.fn 308 [] []) [.agg (v0::v1::v2::r),.str [110,117,108,108]] st) fun w s=>Ext st s∧AnsH s w v0 v1 v2 r (pushR ops obZ).1 (pushR ops obZ).2 hp:=by
 refine call_res H.e H.f rfl ?_
 have hlen:=hR.len
 have ht:=hR.take
 have s0:=RdS.sc r0
 have s1:=hR.sc
 have s2:=r2.sc
 have sr:=hR.all
 have z1:∀v,splice B.z457 0 (v::v1::v2::r)=v::v1::v2::r:=fun v=>splice_len (by rw[hR.len67,zSt_len])
 have d0:¬st.nx+1+1=st.nx:=by omega
 have d1:¬st.nx+1+1=st.nx+1:=by omega
 have d2:¬st.nx+1+1+1=st.nx:=by omega
 have d3:¬st.nx+1+1+1=st.nx+1:=by omega
 have d4:¬st.nx+1+1+1=st.nx+1+1:=by omega
 have d5:¬st.nx+1+1+1+1=st.nx:=by omega
 have d6:¬st.nx+1+1+1+1=st.nx+1:=by omega
 have d7:¬st.nx+1+1+1+1=st.nx+1+1:=by omega
 have d8:¬st.nx+1+1+1+1=st.nx+1+1+1:=by omega
 have xA:=((((Ext.refl hwf).consN (o:= .cells 457 true (v0::v1::v2::r)) (Nat.lt_succ_self st.nx)).consN (o:= .cells 457 true B.z457) (Nat.lt_succ_self (st.nx+1))).consN (o:= .cells 493 true (v0::v1::v2::r)) (Nat.lt_succ_self (st.nx+1+1))).consN (o:=(.map [(.str [108,116],.fn 330 [] []),(.str [108,101],.fn 331 [] []),(.str [103,116],.fn 332 [] []),(.str [103,101],.fn 333 [] [])])) (Nat.lt_succ_self (st.nx+1+1+1))
 have xB:=xA.consN (o:=(.map [(.str [97,110,100],.fn 335 [] []),(.str [111,114],.fn 336 [] []),(.str [120,111,114],.fn 337 [] [])])) (Nat.lt_succ_self (st.nx+1+1+1+1))
 simp (disch:=omega) [B.logic_Do,go_sem,hlen,ht,d0,d1,d2,d3,d4,d5,d6,d7,d8,z1,zSt_len,s0,s1,s2,sr,mins,mfind,cellEqK,seq8]
 have y3:=xB.consN (o:= .cells 451 false obZ.A) (Nat.lt_succ_self (st.nx+1+1+1+1+1))
 have e1:¬st.nx+1+1+1+1+1=st.nx:=by omega
 have e2:¬st.nx+1+1+1+1+1=st.nx+1:=by omega
 have e3:¬st.nx+1+1+1+1+1=st.nx+1+1:=by omega
 simp (disch:=omega) [go_sem,hlen,ht,B.zOb]
 refine(push_ans H.stack_Push y3.wf hR (r0.ext y3 hwf) (r2.ext y3 hwf) hb (one_obs obZ _ _)).mono ?_
 rintro w q9 ⟨x9,ha⟩
 have k9:=x9.keep
 have y9:=y3.trans x9
 have n9:=x9.nx
 try simp only at n9 k9
 have ha:=ha.toH (r2.ext y9 hwf)
 obtain⟨X,e',rfl,hX,hXs,hXt,hXz⟩:=ha.shape hR s0 s2
 have g:hget q9.h (st.nx+1)=some (.cells 457 true B.z457):=by
  rw[k9 _ (by omega)]
  simp (disch:=omega) [hget_cons,d0,d1,d2,d3,d4,d5,d6,d7,d8,e1,e2,e3]
 simp (disch:=omega) [go_sem,reI,wanted,k9,hX,hXs,hXt,hXz,zSt_len,d0,d1,d2,d3,d4,d5,d6,d7,d8,e1,e2,e3]
 have z:=Ext.setN (st:=st) (h:=q9.h) (m:=q9.nx) (n:=st.nx+1) (o:= .cells 457 true X) y9 (by omega)
 exact⟨z.dropLoc,AnsH.dropLoc (st:=⟨_,q9.nx⟩) (ha.hset g rfl) z.wf⟩
theorem do_type (H:B.H_logic_Do T) (hwf:st.Wf) {v0 v1 v2:AV} {r:List AV} (hR:Rest v1 r) {ops:List Ob} {hp:List Ce} (r0:RdO st.h v0 ops) (r2:HpR st.h v2 hp) (hb:ops.length<1000000) (hs:HpS hp) (hpw:Pow st) (hbr:Bru st):
  CRes (call T (.fn 308 [] []) [.agg (v0::v1::v2::r),.str [116,121,112,101]] st) fun w s=>Ext st s∧AnsH s w v0 v1 v2 r (oneR ops 0 kindF).1 (oneR ops 0 kindF).2 hp:=by
 refine call_res H.e H.f rfl ?_
 have hlen:=hR.len
 have ht:=hR.take
 have s0:=RdS.sc r0
 have s1:=hR.sc
 have s2:=r2.sc
 have sr:=hR.all
 have z1:∀v,splice B.z457 0 (v::v1::v2::r)=v::v1::v2::r:=fun v=>splice_len (by rw[hR.len67,zSt_len])
 have d0:¬st.nx+1+1=st.nx:=by omega
 have d1:¬st.nx+1+1=st.nx+1:=by omega
 have d2:¬st.nx+1+1+1=st.nx:=by omega
 have d3:¬st.nx+1+1+1=st.nx+1:=by omega
 have d4:¬st.nx+1+1+1=st.nx+1+1:=by omega
 have d5:¬st.nx+1+1+1+1=st.nx:=by omega
 have d6:¬st.nx+1+1+1+1=st.nx+1:=by omega
 have d7:¬st.nx+1+1+1+1=st.nx+1+1:=by omega
 have d8:¬st.nx+1+1+1+1=st.nx+1+1+1:=by omega
 have xA:=((((Ext.refl hwf).consN (o:= .cells 457 true (v0::v1::v2::r)) (Nat.lt_succ_self st.nx)).consN (o:= .cells 457 true B.z457) (Nat.lt_succ_self (st.nx+1))).consN (o:= .cells 493 true (v0::v1::v2::r)) (Nat.lt_succ_self (st.nx+1+1))).consN (o:=(.map [(.str [108,116],.fn 330 [] []),(.str [108,101],.fn 331 [] []),(.str [103,116],.fn 332 [] []),(.str [103,101],.fn 333 [] [])])) (Nat.lt_succ_self (st.nx+1+1+1))
 have xB:=xA.consN (o:=(.map [(.str [97,110,100],.fn 335 [] []),(.str [111,114],.fn 336 [] []),(.str [120,111,114],.fn 337 [] [])])) (Nat.lt_succ_self (st.nx+1+1+1+1))
 simp (disch:=omega) [B.logic_Do,go_sem,hlen,ht,d0,d1,d2,d3,d4,d5,d6,d7,d8,z1,zSt_len,s0,s1,s2,sr,mins,mfind,cellEqK,seq8]
 refine(oneOp_res H.logic_judge_one xB.wf hR (r0.ext xB hwf) (r2.ext xB hwf) hb (F:=kindF) (fun s o x=>kindOf_tells H.logic_kindOf x.wf o)).mono ?_
 rintro w q9 ⟨x9,ha⟩
 have k9:=x9.keep
 have y9:=xB.trans x9
 have n9:=x9.nx
 try simp only at n9 k9
 have ha:=ha.toH (r2.ext y9 hwf)
 obtain⟨X,e',rfl,hX,hXs,hXt,hXz⟩:=ha.shape hR s0 s2
 have g:hget q9.h (st.nx+1)=some (.cells 457 true B.z457):=by
  rw[k9 _ (by omega)]
  simp (disch:=omega) [hget_cons,d0,d1,d2,d3,d4,d5,d6,d7,d8]
 simp (disch:=omega) [go_sem,reI,wanted,k9,hX,hXs,hXt,hXz,zSt_len,d0,d1,d2,d3,d4,d5,d6,d7,d8]
 have z:=Ext.setN (st:=st) (h:=q9.h) (m:=q9.nx) (n:=st.nx+1) (o:= .cells 457 true X) y9 (by omega)
 exact⟨z.dropLoc,AnsH.dropLoc (st:=⟨_,q9.nx⟩) (ha.hset g rfl) z.wf⟩
theorem do_xcheck (H:B.H_logic_Do T) (hwf:st.Wf) {v0 v1 v2:AV} {r:List AV} (hR:Rest v1 r) {ops:List Ob} {hp:List Ce} (r0:RdO st.h v0 ops) (r2:HpR st.h v2 hp) (hb:ops.length<1000000) (hs:HpS hp) (hpw:Pow st) (hbr:Bru st):
  CRes (call T (.fn 308 [] []) [.agg (v0::v1::v2::r),.str [120,99,104,101,99,107]] st) fun w s=>Ext st s∧AnsH s w v0 v1 v2 r (oneR ops 0 xF).1 (oneR ops 0 xF).2 hp:=by
 refine call_res H.e H.f rfl ?_
 have hlen:=hR.len
 have ht:=hR.take
 have s0:=RdS.sc r0
 have s1:=hR.sc
 have s2:=r2.sc
 have sr:=hR.all
 have z1:∀v,splice B.z457 0 (v::v1::v2::r)=v::v1::v2::r:=fun v=>splice_len (by rw[hR.len67,zSt_len])
 have d0:¬st.nx+1+1=st.nx:=by omega
 have d1:¬st.nx+1+1=st.nx+1:=by omega
 have d2:¬st.nx+1+1+1=st.nx:=by omega
 have d3:¬st.nx+1+1+1=st.nx+1:=by omega
 have d4:¬st.nx+1+1+1=st.nx+1+1:=by omega
 have d5:¬st.nx+1+1+1+1=st.nx:=by omega
 have d6:¬st.nx+1+1+1+1=st.nx+1:=by omega
 have d7:¬st.nx+1+1+1+1=st.nx+1+1:=by omega
 have d8:¬st.nx+1+1+1+1=st.nx+1+1+1:=by omega
 have xA:=((((Ext.refl hwf).consN (o:= .cells 457 true (v0::v1::v2::r)) (Nat.lt_succ_self st.nx)).consN (o:= .cells 457 true B.z457) (Nat.lt_succ_self (st.nx+1))).consN (o:= .cells 493 true (v0::v1::v2::r)) (Nat.lt_succ_self (st.nx+1+1))).consN (o:=(.map [(.str [108,116],.fn 330 [] []),(.str [108,101],.fn 331 [] []),(.str [103,116],.fn 332 [] []),(.str [103,101],.fn 333 [] [])])) (Nat.lt_succ_self (st.nx+1+1+1))
 have xB:=xA.consN (o:=(.map [(.str [97,110,100],.fn 335 [] []),(.str [111,114],.fn 336 [] []),(.str [120,111,114],.fn 337 [] [])])) (Nat.lt_succ_self (st.nx+1+1+1+1))
 simp (disch:=omega) [B.logic_Do,go_sem,hlen,ht,d0,d1,d2,d3,d4,d5,d6,d7,d8,z1,zSt_len,s0,s1,s2,sr,mins,mfind,cellEqK,seq8]
 refine(oneOp_res H.logic_judge_one xB.wf hR (r0.ext xB hwf) (r2.ext xB hwf) hb (F:=xF) (fun s o x=>do8_tells H.logic_Do_8 x.wf o)).mono ?_
 rintro w q9 ⟨x9,ha⟩
 have k9:=x9.keep
 have y9:=xB.trans x9
 have n9:=x9.nx
 try simp only at n9 k9
 have ha:=ha.toH (r2.ext y9 hwf)
 obtain⟨X,e',rfl,hX,hXs,hXt,hXz⟩:=ha.shape hR s0 s2
 have g:hget q9.h (st.nx+1)=some (.cells 457 true B.z457):=by
  rw[k9 _ (by omega)]
  simp (disch:=omega) [hget_cons,d0,d1,d2,d3,d4,d5,d6,d7,d8]
 simp (disch:=omega) [go_sem,reI,wanted,k9,hX,hXs,hXt,hXz,zSt_len,d0,d1,d2,d3,d4,d5,d6,d7,d8]
 have z:=Ext.setN (st:=st) (h:=q9.h) (m:=q9.nx) (n:=st.nx+1) (o:= .cells 457 true X) y9 (by omega)
 exact⟨z.dropLoc,AnsH.dropLoc (st:=⟨_,q9.nx⟩) (ha.hset g rfl) z.wf⟩
theorem do_cvx (H:B.H_logic_Do T) (hwf:st.Wf) {v0 v1 v2:AV} {r:List AV} (hR:Rest v1 r) {ops:List Ob} {hp:List Ce} (r0:RdO st.h v0 ops) (r2:HpR st.h v2 hp) (hb:ops.length<1000000) (hs:HpS hp) (hpw:Pow st) (hbr:Bru st):
  CRes (call T (.fn 308 [] []) [.agg (v0::v1::v2::r),.str [99,118,120]] st) fun w s=>Ext st s∧AnsH s w v0 v1 v2 r (oneR ops 0 (execF true)).1 (oneR ops 0 (execF true)).2 hp:=by
 refine call_res H.e H.f rfl ?_
 have hlen:=hR.len
 have ht:=hR.take
 have s0:=RdS.sc r0
 have s1:=hR.sc
 have s2:=r2.sc
 have sr:=hR.all
 have z1:∀v,splice B.z457 0 (v::v1::v2::r)=v::v1::v2::r:=fun v=>splice_len (by rw[hR.len67,zSt_len])
 have d0:¬st.nx+1+1=st.nx:=by omega
 have d1:¬st.nx+1+1=st.nx+1:=by omega
 have d2:¬st.nx+1+1+1=st.nx:=by omega
 have d3:¬st.nx+1+1+1=st.nx+1:=by omega
 have d4:¬st.nx+1+1+1=st.nx+1+1:=by omega
 have d5:¬st.nx+1+1+1+1=st.nx:=by omega
 have d6:¬st.nx+1+1+1+1=st.nx+1:=by omega
 have d7:¬st.nx+1+1+1+1=st.nx+1+1:=by omega
 have d8:¬st.nx+1+1+1+1=st.nx+1+1+1:=by omega
 have xA:=((((Ext.refl hwf).consN (o:= .cells 457 true (v0::v1::v2::r)) (Nat.lt_succ_self st.nx)).consN (o:= .cells 457 true B.z457) (Nat.lt_succ_self (st.nx+1))).consN (o:= .cells 493 true (v0::v1::v2::r)) (Nat.lt_succ_self (st.nx+1+1))).consN (o:=(.map [(.str [108,116],.fn 330 [] []),(.str [108,101],.fn 331 [] []),(.str [103,116],.fn 332 [] []),(.str [103,101],.fn 333 [] [])])) (Nat.lt_succ_self (st.nx+1+1+1))
 have xB:=xA.consN (o:=(.map [(.str [97,110,100],.fn 335 [] []),(.str [111,114],.fn 336 [] []),(.str [120,111,114],.fn 337 [] [])])) (Nat.lt_succ_self (st.nx+1+1+1+1))
 simp (disch:=omega) [B.logic_Do,go_sem,hlen,ht,d0,d1,d2,d3,d4,d5,d6,d7,d8,z1,zSt_len,s0,s1,s2,sr,mins,mfind,cellEqK,seq8]
 refine(executable_res H.logic_executable xB.wf true).mono ?_
 rintro w q2 ⟨x2,n,rfl,hn⟩
 have k2:=x2.keep
 have y2:=xB.trans x2
 have n2:=x2.nx
 try simp only at k2 n2
 simp (disch:=omega) [go_sem]
 refine(oneOp_res H.logic_judge_one y2.wf hR (r0.ext y2 hwf) (r2.ext y2 hwf) hb (F:=execF true) (fun s o x=>executable1_tells H.logic_executable.logic_executable_1 x.wf true (x.get y2.wf hn) o)).mono ?_
 rintro w q9 ⟨x9,ha⟩
 have k9:=x9.keep
 have y9:=y2.trans x9
 have n9:=x9.nx
 try simp only at n9 k9
 have ha:=ha.toH (r2.ext y9 hwf)
 obtain⟨X,e',rfl,hX,hXs,hXt,hXz⟩:=ha.shape hR s0 s2
 have g:hget q9.h (st.nx+1)=some (.cells 457 true B.z457):=by
  rw[k9 _ (by omega)]
  simp (disch:=omega) [k2,hget_cons,d0,d1,d2,d3,d4,d5,d6,d7,d8]
 simp (disch:=omega) [go_sem,reI,wanted,k9,k2,hX,hXs,hXt,hXz,zSt_len,d0,d1,d2,d3,d4,d5,d6,d7,d8]
 have z:=Ext.setN (st:=st) (h:=q9.h) (m:=q9.nx) (n:=st.nx+1) (o:= .cells 457 true X) y9 (by omega)
 exact⟨z.dropLoc,AnsH.dropLoc (st:=⟨_,q9.nx⟩) (ha.hset g rfl) z.wf⟩
theorem do_cvlit (H:B.H_logic_Do T) (hwf:st.Wf) {v0 v1 v2:AV} {r:List AV} (hR:Rest v1 r) {ops:List Ob} {hp:List Ce} (r0:RdO st.h v0 ops) (r2:HpR st.h v2 hp) (hb:ops.length<1000000) (hs:HpS hp) (hpw:Pow st) (hbr:Bru st):
  CRes (call T (.fn 308 [] []) [.agg (v0::v1::v2::r),.str [99,118,108,105,116]] st) fun w s=>Ext st s∧AnsH s w v0 v1 v2 r (oneR ops 0 (execF false)).1 (oneR ops 0 (execF false)).2 hp:=by
 refine call_res H.e H.f rfl ?_
 have hlen:=hR.len
 have ht:=hR.take
 have s0:=RdS.sc r0
 have s1:=hR.sc
 have s2:=r2.sc
 have sr:=hR.all
 have z1:∀v,splice B.z457 0 (v::v1::v2::r)=v::v1::v2::r:=fun v=>splice_len (by rw[hR.len67,zSt_len])
 have d0:¬st.nx+1+1=st.nx:=by omega
 have d1:¬st.nx+1+1=st.nx+1:=by omega
 have d2:¬st.nx+1+1+1=st.nx:=by omega
 have d3:¬st.nx+1+1+1=st.nx+1:=by omega
 have d4:¬st.nx+1+1+1=st.nx+1+1:=by omega
 have d5:¬st.nx+1+1+1+1=st.nx:=by omega
 have d6:¬st.nx+1+1+1+1=st.nx+1:=by omega
 have d7:¬st.nx+1+1+1+1=st.nx+1+1:=by omega
 have d8:¬st.nx+1+1+1+1=st.nx+1+1+1:=by omega
 have xA:=((((Ext.refl hwf).consN (o:= .cells 457 true (v0::v1::v2::r)) (Nat.lt_succ_self st.nx)).consN (o:= .cells 457 true B.z457) (Nat.lt_succ_self (st.nx+1))).consN (o:= .cells 493 true (v0::v1::v2::r)) (Nat.lt_succ_self (st.nx+1+1))).consN (o:=(.map [(.str [108,116],.fn 330 [] []),(.str [108,101],.fn 331 [] []),(.str [103,116],.fn 332 [] []),(.str [103,101],.fn 333 [] [])])) (Nat.lt_succ_self (st.nx+1+1+1))
 have xB:=xA.consN (o:=(.map [(.str [97,110,100],.fn 335 [] []),(.str [111,114],.fn 336 [] []),(.str [120,111,114],.fn 337 [] [])])) (Nat.lt_succ_self (st.nx+1+1+1+1))
 simp (disch:=omega) [B.logic_Do,go_sem,hlen,ht,d0,d1,d2,d3,d4,d5,d6,d7,d8,z1,zSt_len,s0,s1,s2,sr,mins,mfind,cellEqK,seq8]
 refine(executable_res H.logic_executable xB.wf false).mono ?_
 rintro w q2 ⟨x2,n,rfl,hn⟩
 have k2:=x2.keep
 have y2:=xB.trans x2
 have n2:=x2.nx
 try simp only at k2 n2
 simp (disch:=omega) [go_sem]
 refine(oneOp_res H.logic_judge_one y2.wf hR (r0.ext y2 hwf) (r2.ext y2 hwf) hb (F:=execF false) (fun s o x=>executable1_tells H.logic_executable.logic_executable_1 x.wf false (x.get y2.wf hn) o)).mono ?_
 rintro w q9 ⟨x9,ha⟩
 have k9:=x9.keep
 have y9:=y2.trans x9
 have n9:=x9.nx
 try simp only at n9 k9
 have ha:=ha.toH (r2.ext y9 hwf)
 obtain⟨X,e',rfl,hX,hXs,hXt,hXz⟩:=ha.shape hR s0 s2
 have g:hget q9.h (st.nx+1)=some (.cells 457 true B.z457):=by
  rw[k9 _ (by omega)]
  simp (disch:=omega) [k2,hget_cons,d0,d1,d2,d3,d4,d5,d6,d7,d8]
 simp (disch:=omega) [go_sem,reI,wanted,k9,k2,hX,hXs,hXt,hXz,zSt_len,d0,d1,d2,d3,d4,d5,d6,d7,d8]
 have z:=Ext.setN (st:=st) (h:=q9.h) (m:=q9.nx) (n:=st.nx+1) (o:= .cells 457 true X) y9 (by omega)
 exact⟨z.dropLoc,AnsH.dropLoc (st:=⟨_,q9.nx⟩) (ha.hset g rfl) z.wf⟩
theorem do_cvn (H:B.H_logic_Do T) (hwf:st.Wf) {v0 v1 v2:AV} {r:List AV} (hR:Rest v1 r) {ops:List Ob} {hp:List Ce} (r0:RdO st.h v0 ops) (r2:HpR st.h v2 hp) (hb:ops.length<1000000) (hs:HpS hp) (hpw:Pow st) (hbr:Bru st):
  CRes (call T (.fn 308 [] []) [.agg (v0::v1::v2::r),.str [99,118,110]] st) fun w s=>Ext st s∧AnsH s w v0 v1 v2 r (oneR ops 2 (nameF hp)).1 (oneR ops 2 (nameF hp)).2 hp:=by
 refine call_res H.e H.f rfl ?_
 have hlen:=hR.len
 have ht:=hR.take
 have s0:=RdS.sc r0
 have s1:=hR.sc
 have s2:=r2.sc
 have sr:=hR.all
 have z1:∀v,splice B.z457 0 (v::v1::v2::r)=v::v1::v2::r:=fun v=>splice_len (by rw[hR.len67,zSt_len])
 have d0:¬st.nx+1+1=st.nx:=by omega
 have d1:¬st.nx+1+1=st.nx+1:=by omega
 have d2:¬st.nx+1+1+1=st.nx:=by omega
 have d3:¬st.nx+1+1+1=st.nx+1:=by omega
 have d4:¬st.nx+1+1+1=st.nx+1+1:=by omega
 have d5:¬st.nx+1+1+1+1=st.nx:=by omega
 have d6:¬st.nx+1+1+1+1=st.nx+1:=by omega
 have d7:¬st.nx+1+1+1+1=st.nx+1+1:=by omega
 have d8:¬st.nx+1+1+1+1=st.nx+1+1+1:=by omega
 have xA:=((((Ext.refl hwf).consN (o:= .cells 457 true (v0::v1::v2::r)) (Nat.lt_succ_self st.nx)).consN (o:= .cells 457 true B.z457) (Nat.lt_succ_self (st.nx+1))).consN (o:= .cells 493 true (v0::v1::v2::r)) (Nat.lt_succ_self (st.nx+1+1))).consN (o:=(.map [(.str [108,116],.fn 330 [] []),(.str [108,101],.fn 331 [] []),(.str [103,116],.fn 332 [] []),(.str [103,101],.fn 333 [] [])])) (Nat.lt_succ_self (st.nx+1+1+1))
 have xB:=xA.consN (o:=(.map [(.str [97,110,100],.fn 335 [] []),(.str [111,114],.fn 336 [] []),(.str [120,111,114],.fn 337 [] [])])) (Nat.lt_succ_self (st.nx+1+1+1+1))
 simp (disch:=omega) [B.logic_Do,go_sem,hlen,ht,d0,d1,d2,d3,d4,d5,d6,d7,d8,z1,zSt_len,s0,s1,s2,sr,mins,mfind,cellEqK,seq8]
 refine(oneOp_res H.logic_judge_one xB.wf hR (r0.ext xB hwf) (r2.ext xB hwf) hb (F:=nameF hp) (fun s o x=>judgeNamed_tells H.logic_judge_named x.wf hR ((r2.ext xB hwf).ext x xB.wf) o)).mono ?_
 rintro w q9 ⟨x9,ha⟩
 have k9:=x9.keep
 have y9:=xB.trans x9
 have n9:=x9.nx
 try simp only at n9 k9
 have ha:=ha.toH (r2.ext y9 hwf)
 obtain⟨X,e',rfl,hX,hXs,hXt,hXz⟩:=ha.shape hR s0 s2
 have g:hget q9.h (st.nx+1)=some (.cells 457 true B.z457):=by
  rw[k9 _ (by omega)]
  simp (disch:=omega) [hget_cons,d0,d1,d2,d3,d4,d5,d6,d7,d8]
 simp (disch:=omega) [go_sem,reI,wanted,k9,hX,hXs,hXt,hXz,zSt_len,d0,d1,d2,d3,d4,d5,d6,d7,d8]
 have z:=Ext.setN (st:=st) (h:=q9.h) (m:=q9.nx) (n:=st.nx+1) (o:= .cells 457 true X) y9 (by omega)
 exact⟨z.dropLoc,AnsH.dropLoc (st:=⟨_,q9.nx⟩) (ha.hset g rfl) z.wf⟩
theorem do_cvi (H:B.H_logic_Do T) (hwf:st.Wf) {v0 v1 v2:AV} {r:List AV} (hR:Rest v1 r) {ops:List Ob} {hp:List Ce} (r0:RdO st.h v0 ops) (r2:HpR st.h v2 hp) (hb:ops.length<1000000) (hs:HpS hp) (hpw:Pow st) (hbr:Bru st):
  CRes (call T (.fn 308 [] []) [.agg (v0::v1::v2::r),.str [99,118,105]] st) fun w s=>Ext st s∧AnsH s w v0 v1 v2 r (oneR ops 5 (convF hp toIntE)).1 (oneR ops 5 (convF hp toIntE)).2 hp:=by
 refine call_res H.e H.f rfl ?_
 have hlen:=hR.len
 have ht:=hR.take
 have s0:=RdS.sc r0
 have s1:=hR.sc
 have s2:=r2.sc
 have sr:=hR.all
 have z1:∀v,splice B.z457 0 (v::v1::v2::r)=v::v1::v2::r:=fun v=>splice_len (by rw[hR.len67,zSt_len])
 have d0:¬st.nx+1+1=st.nx:=by omega
 have d1:¬st.nx+1+1=st.nx+1:=by omega
 have d2:¬st.nx+1+1+1=st.nx:=by omega
 have d3:¬st.nx+1+1+1=st.nx+1:=by omega
 have d4:¬st.nx+1+1+1=st.nx+1+1:=by omega
 have d5:¬st.nx+1+1+1+1=st.nx:=by omega
 have d6:¬st.nx+1+1+1+1=st.nx+1:=by omega
 have d7:¬st.nx+1+1+1+1=st.nx+1+1:=by omega
 have d8:¬st.nx+1+1+1+1=st.nx+1+1+1:=by omega
 have xA:=((((Ext.refl hwf).consN (o:= .cells 457 true (v0::v1::v2::r)) (Nat.lt_succ_self st.nx)).consN (o:= .cells 457 true B.z457) (Nat.lt_succ_self (st.nx+1))).consN (o:= .cells 493 true (v0::v1::v2::r)) (Nat.lt_succ_self (st.nx+1+1))).consN (o:=(.map [(.str [108,116],.fn 330 [] []),(.str [108,101],.fn 331 [] []),(.str [103,116],.fn 332 [] []),(.str [103,101],.fn 333 [] [])])) (Nat.lt_succ_self (st.nx+1+1+1))
 have xB:=xA.consN (o:=(.map [(.str [97,110,100],.fn 335 [] []),(.str [111,114],.fn 336 [] []),(.str [120,111,114],.fn 337 [] [])])) (Nat.lt_succ_self (st.nx+1+1+1+1))
 simp (disch:=omega) [B.logic_Do,go_sem,hlen,ht,d0,d1,d2,d3,d4,d5,d6,d7,d8,z1,zSt_len,s0,s1,s2,sr,mins,mfind,cellEqK,seq8]
 refine(converted_res H.logic_converted_api_Obj xB.wf hR s0 s2 350).mono ?_
 rintro w q2 ⟨x2,n,m,rfl,hn,hm⟩
 have k2:=x2.keep
 have y2:=xB.trans x2
 have n2:=x2.nx
 try simp only at k2 n2
 simp (disch:=omega) [go_sem]
 refine(oneOp_res H.logic_judge_one y2.wf hR (r0.ext y2 hwf) (r2.ext y2 hwf) hb (F:=convF hp toIntE) (fun s o x=>converted1_tells H.logic_converted_api_Obj.logic_converted_api_Obj_1 x.wf hR hs ((r2.ext y2 hwf).ext x y2.wf) (fun s o hw=>toInt_obj H.object_ToInt hw o) (x.get y2.wf hn) (x.get y2.wf hm) o)).mono ?_
 rintro w q9 ⟨x9,ha⟩
 have k9:=x9.keep
 have y9:=y2.trans x9
 have n9:=x9.nx
 try simp only at n9 k9
 have ha:=ha.toH (r2.ext y9 hwf)
 obtain⟨X,e',rfl,hX,hXs,hXt,hXz⟩:=ha.shape hR s0 s2
 have g:hget q9.h (st.nx+1)=some (.cells 457 true B.z457):=by
  rw[k9 _ (by omega)]
  simp (disch:=omega) [k2,hget_cons,d0,d1,d2,d3,d4,d5,d6,d7,d8]
 simp (disch:=omega) [go_sem,reI,wanted,k9,k2,hX,hXs,hXt,hXz,zSt_len,d0,d1,d2,d3,d4,d5,d6,d7,d8]
 have z:=Ext.setN (st:=st) (h:=q9.h) (m:=q9.nx) (n:=st.nx+1) (o:= .cells 457 true X) y9 (by omega)
 exact⟨z.dropLoc,AnsH.dropLoc (st:=⟨_,q9.nx⟩) (ha.hset g rfl) z.wf⟩
theorem do_cvr (H:B.H_logic_Do T) (hwf:st.Wf) {v0 v1 v2:AV} {r:List AV} (hR:Rest v1 r) {ops:List Ob} {hp:List Ce} (r0:RdO st.h v0 ops) (r2:HpR st.h v2 hp) (hb:ops.length<1000000) (hs:HpS hp) (hpw:Pow st) (hbr:Bru st):
  CRes (call T (.fn 308 [] []) [.agg (v0::v1::v2::r),.str [99,118,114]] st) fun w s=>Ext st s∧AnsH s w v0 v1 v2 r (oneR ops 5 (convF hp toRealE)).1 (oneR ops 5 (convF hp toRealE)).2 hp:=by
 refine call_res H.e H.f rfl ?_
 have hlen:=hR.len
 have ht:=hR.take
 have s0:=RdS.sc r0
 have s1:=hR.sc
 have s2:=r2.sc
 have sr:=hR.all
 have z1:∀v,splice B.z457 0 (v::v1::v2::r)=v::v1::v2::r:=fun v=>splice_len (by rw[hR.len67,zSt_len])
 have d0:¬st.nx+1+1=st.nx:=by omega
 have d1:¬st.nx+1+1=st.nx+1:=by omega
 have d2:¬st.nx+1+1+1=st.nx:=by omega
 have d3:¬st.nx+1+1+1=st.nx+1:=by omega
 have d4:¬st.nx+1+1+1=st.nx+1+1:=by omega
 have d5:¬st.nx+1+1+1+1=st.nx:=by omega
 have d6:¬st.nx+1+1+1+1=st.nx+1:=by omega
 have d7:¬st.nx+1+1+1+1=st.nx+1+1:=by omega
 have d8:¬st.nx+1+1+1+1=st.nx+1+1+1:=by omega
 have xA:=((((Ext.refl hwf).consN (o:= .cells 457 true (v0::v1::v2::r)) (Nat.lt_succ_self st.nx)).consN (o:= .cells 457 true B.z457) (Nat.lt_succ_self (st.nx+1))).consN (o:= .cells 493 true (v0::v1::v2::r)) (Nat.lt_succ_self (st.nx+1+1))).consN (o:=(.map [(.str [108,116],.fn 330 [] []),(.str [108,101],.fn 331 [] []),(.str [103,116],.fn 332 [] []),(.str [103,101],.fn 333 [] [])])) (Nat.lt_succ_self (st.nx+1+1+1))
 have xB:=xA.consN (o:=(.map [(.str [97,110,100],.fn 335 [] []),(.str [111,114],.fn 336 [] []),(.str [120,111,114],.fn 337 [] [])])) (Nat.lt_succ_self (st.nx+1+1+1+1))
 simp (disch:=omega) [B.logic_Do,go_sem,hlen,ht,d0,d1,d2,d3,d4,d5,d6,d7,d8,z1,zSt_len,s0,s1,s2,sr,mins,mfind,cellEqK,seq8]
 refine(converted_res H.logic_converted_api_Obj xB.wf hR s0 s2 351).mono ?_
 rintro w q2 ⟨x2,n,m,rfl,hn,hm⟩
 have k2:=x2.keep
 have y2:=xB.trans x2
 have n2:=x2.nx
 try simp only at k2 n2
 simp (disch:=omega) [go_sem]
 refine(oneOp_res H.logic_judge_one y2.wf hR (r0.ext y2 hwf) (r2.ext y2 hwf) hb (F:=convF hp toRealE) (fun s o x=>converted1_tells H.logic_converted_api_Obj.logic_converted_api_Obj_1 x.wf hR hs ((r2.ext y2 hwf).ext x y2.wf) (fun s o hw=>toReal_obj H.object_ToReal hw o) (x.get y2.wf hn) (x.get y2.wf hm) o)).mono ?_
 rintro w q9 ⟨x9,ha⟩
 have k9:=x9.keep
 have y9:=y2.trans x9
 have n9:=x9.nx
 try simp only at n9 k9
 have ha:=ha.toH (r2.ext y9 hwf)
 obtain⟨X,e',rfl,hX,hXs,hXt,hXz⟩:=ha.shape hR s0 s2
 have g:hget q9.h (st.nx+1)=some (.cells 457 true B.z457):=by
  rw[k9 _ (by omega)]
  simp (disch:=omega) [k2,hget_cons,d0,d1,d2,d3,d4,d5,d6,d7,d8]
 simp (disch:=omega) [go_sem,reI,wanted,k9,k2,hX,hXs,hXt,hXz,zSt_len,d0,d1,d2,d3,d4,d5,d6,d7,d8]
 have z:=Ext.setN (st:=st) (h:=q9.h) (m:=q9.nx) (n:=st.nx+1) (o:= .cells 457 true X) y9 (by omega)
 exact⟨z.dropLoc,AnsH.dropLoc (st:=⟨_,q9.nx⟩) (ha.hset g rfl) z.wf⟩
theorem do_cvs (H:B.H_logic_Do T) (hwf:st.Wf) {v0 v1 v2:AV} {r:List AV} (hR:Rest v1 r) {ops:List Ob} {hp:List Ce} (r0:RdO st.h v0 ops) (r2:HpR st.h v2 hp) (hb:ops.length<1000000) (hs:HpS hp) (hpw:Pow st) (hbr:Bru st):
  CRes (call T (.fn 308 [] []) [.agg (v0::v1::v2::r),.str [99,118,115]] st) fun w s=>Ext st s∧AnsH s w v0 v1 v2 r (cvsR ops hp).1 (cvsR ops hp).2.1 (cvsR ops hp).2.2:=by
 refine call_res H.e H.f rfl ?_
 have hlen:=hR.len
 have ht:=hR.take
 have s0:=RdS.sc r0
 have s1:=hR.sc
 have s2:=r2.sc
 have sr:=hR.all
 have z1:∀v,splice B.z457 0 (v::v1::v2::r)=v::v1::v2::r:=fun v=>splice_len (by rw[hR.len67,zSt_len])
 have d0:¬st.nx+1+1=st.nx:=by omega
 have d1:¬st.nx+1+1=st.nx+1:=by omega
 have d2:¬st.nx+1+1+1=st.nx:=by omega
 have d3:¬st.nx+1+1+1=st.nx+1:=by omega
 have d4:¬st.nx+1+1+1=st.nx+1+1:=by omega
 have d5:¬st.nx+1+1+1+1=st.nx:=by omega
 have d6:¬st.nx+1+1+1+1=st.nx+1:=by omega
 have d7:¬st.nx+1+1+1+1=st.nx+1+1:=by omega
 have d8:¬st.nx+1+1+1+1=st.nx+1+1+1:=by omega
 have xA:=((((Ext.refl hwf).consN (o:= .cells 457 true (v0::v1::v2::r)) (Nat.lt_succ_self st.nx)).consN (o:= .cells 457 true B.z457) (Nat.lt_succ_self (st.nx+1))).consN (o:= .cells 493 true (v0::v1::v2::r)) (Nat.lt_succ_self (st.nx+1+1))).consN (o:=(.map [(.str [108,116],.fn 330 [] []),(.str [108,101],.fn 331 [] []),(.str [103,116],.fn 332 [] []),(.str [103,101],.fn 333 [] [])])) (Nat.lt_succ_self (st.nx+1+1+1))
 have xB:=xA.consN (o:=(.map [(.str [97,110,100],.fn 335 [] []),(.str [111,114],.fn 336 [] []),(.str [120,111,114],.fn 337 [] [])])) (Nat.lt_succ_self (st.nx+1+1+1+1))
 simp (disch:=omega) [B.logic_Do,go_sem,hlen,ht,d0,d1,d2,d3,d4,d5,d6,d7,d8,z1,zSt_len,s0,s1,s2,sr,mins,mfind,cellEqK,seq8]
 refine(cvs_res H.logic_judge_cvs xB.wf hR (r0.ext xB hwf) (r2.ext xB hwf) hb hs (hpw.ext xB hwf) (hbr.ext xB hwf)).mono ?_
 rintro w q9 ⟨x9,ha⟩
 have k9:=x9.keep
 have y9:=xB.trans x9
 have n9:=x9.nx
 try simp only at n9 k9
 obtain⟨X,e',rfl,hX,hXs,hXt,hXz⟩:=ha.shape hR s0 s2
 have g:hget q9.h (st.nx+1)=some (.cells 457 true B.z457):=by
  rw[k9 _ (by omega)]
  simp (disch:=omega) [hget_cons,d0,d1,d2,d3,d4,d5,d6,d7,d8]
 simp (disch:=omega) [go_sem,reI,wanted,k9,hX,hXs,hXt,hXz,zSt_len,d0,d1,d2,d3,d4,d5,d6,d7,d8]
 have z:=Ext.setN (st:=st) (h:=q9.h) (m:=q9.nx) (n:=st.nx+1) (o:= .cells 457 true X) y9 (by omega)
 exact⟨z.dropLoc,AnsH.dropLoc (st:=⟨_,q9.nx⟩) (ha.hset g rfl) z.wf⟩
theorem do_cvrs (H:B.H_logic_Do T) (hwf:st.Wf) {v0 v1 v2:AV} {r:List AV} (hR:Rest v1 r) {ops:List Ob} {hp:List Ce} (r0:RdO st.h v0 ops) (r2:HpR st.h v2 hp) (hb:ops.length<1000000) (hs:HpS hp) (hpw:Pow st) (hbr:Bru st):
  CRes (call T (.fn 308 [] []) [.agg (v0::v1::v2::r),.str [99,118,114,115]] st) fun w s=>Ext st s∧AnsH s w v0 v1 v2 r (cvrsR ops hp).1 (cvrsR ops hp).2.1 (cvrsR ops hp).2.2:=by
 refine call_res H.e H.f rfl ?_
 have hlen:=hR.len
 have ht:=hR.take
 have s0:=RdS.sc r0
 have s1:=hR.sc
 have s2:=r2.sc
 have sr:=hR.all
 have z1:∀v,splice B.z457 0 (v::v1::v2::r)=v::v1::v2::r:=fun v=>splice_len (by rw[hR.len67,zSt_len])
 have d0:¬st.nx+1+1=st.nx:=by omega
 have d1:¬st.nx+1+1=st.nx+1:=by omega
 have d2:¬st.nx+1+1+1=st.nx:=by omega
 have d3:¬st.nx+1+1+1=st.nx+1:=by omega
 have d4:¬st.nx+1+1+1=st.nx+1+1:=by omega
 have d5:¬st.nx+1+1+1+1=st.nx:=by omega
 have d6:¬st.nx+1+1+1+1=st.nx+1:=by omega
 have d7:¬st.nx+1+1+1+1=st.nx+1+1:=by omega
 have d8:¬st.nx+1+1+1+1=st.nx+1+1+1:=by omega
 have xA:=((((Ext.refl hwf).consN (o:= .cells 457 true (v0::v1::v2::r)) (Nat.lt_succ_self st.nx)).consN (o:= .cells 457 true B.z457) (Nat.lt_succ_self (st.nx+1))).consN (o:= .cells 493 true (v0::v1::v2::r)) (Nat.lt_succ_self (st.nx+1+1))).consN (o:=(.map [(.str [108,116],.fn 330 [] []),(.str [108,101],.fn 331 [] []),(.str [103,116],.fn 332 [] []),(.str [103,101],.fn 333 [] [])])) (Nat.lt_succ_self (st.nx+1+1+1))
 have xB:=xA.consN (o:=(.map [(.str [97,110,100],.fn 335 [] []),(.str [111,114],.fn 336 [] []),(.str [120,111,114],.fn 337 [] [])])) (Nat.lt_succ_self (st.nx+1+1+1+1))
 simp (disch:=omega) [B.logic_Do,go_sem,hlen,ht,d0,d1,d2,d3,d4,d5,d6,d7,d8,z1,zSt_len,s0,s1,s2,sr,mins,mfind,cellEqK,seq8]
 refine(cvrs_res H.logic_judge_cvrs xB.wf hR (r0.ext xB hwf) (r2.ext xB hwf) hb hs (hpw.ext xB hwf) (hbr.ext xB hwf)).mono ?_
 rintro w q9 ⟨x9,ha⟩
 have k9:=x9.keep
 have y9:=xB.trans x9
 have n9:=x9.nx
 try simp only at n9 k9
 obtain⟨X,e',rfl,hX,hXs,hXt,hXz⟩:=ha.shape hR s0 s2
 have g:hget q9.h (st.nx+1)=some (.cells 457 true B.z457):=by
  rw[k9 _ (by omega)]
  simp (disch:=omega) [hget_cons,d0,d1,d2,d3,d4,d5,d6,d7,d8]
 simp (disch:=omega) [go_sem,reI,wanted,k9,hX,hXs,hXt,hXz,zSt_len,d0,d1,d2,d3,d4,d5,d6,d7,d8]
 have z:=Ext.setN (st:=st) (h:=q9.h) (m:=q9.nx) (n:=st.nx+1) (o:= .cells 457 true X) y9 (by omega)
 exact⟨z.dropLoc,AnsH.dropLoc (st:=⟨_,q9.nx⟩) (ha.hset g rfl) z.wf⟩
theorem do_res (H:B.H_logic_Do T) (hwf:st.Wf) {v0 v1 v2:AV} {r:List AV} (hR:Rest v1 r) {ops:List Ob} {hp:List Ce} (r0:RdO st.h v0 ops) (r2:HpR st.h v2 hp) (hb:ops.length<1000000) (hs:HpS hp) (hpw:Pow st) (hbr:Bru st) (op:List UInt8):
  CRes (call T (.fn 308 [] []) [.agg (v0::v1::v2::r),.str op] st) fun w s=>Ext st s∧AnsH s w v0 v1 v2 r (doR ops hp op).1 (doR ops hp op).2.1 (doR ops hp op).2.2:=by
 by_cases h_lt:op=[108,116]
 ·rw[show doR ops hp op=doR ops hp [108,116]by rw[h_lt],h_lt]
  exact do_lt H hwf hR r0 r2 hb hs hpw hbr
 by_cases h_le:op=[108,101]
 ·rw[show doR ops hp op=doR ops hp [108,101]by rw[h_le],h_le]
  exact do_le H hwf hR r0 r2 hb hs hpw hbr
 by_cases h_gt:op=[103,116]
 ·rw[show doR ops hp op=doR ops hp [103,116]by rw[h_gt],h_gt]
  exact do_gt H hwf hR r0 r2 hb hs hpw hbr
 by_cases h_ge:op=[103,101]
 ·rw[show doR ops hp op=doR ops hp [103,101]by rw[h_ge],h_ge]
  exact do_ge H hwf hR r0 r2 hb hs hpw hbr
 by_cases h_and:op=[97,110,100]
 ·rw[show doR ops hp op=doR ops hp [97,110,100]by rw[h_and],h_and]
  exact do_and H hwf hR r0 r2 hb hs hpw hbr
 by_cases h_or:op=[111,114]
 ·rw[show doR ops hp op=doR ops hp [111,114]by rw[h_or],h_or]
  exact do_or H hwf hR r0 r2 hb hs hpw hbr
 by_cases h_xor:op=[120,111,114]
 ·rw[show doR ops hp op=doR ops hp [120,111,114]by rw[h_xor],h_xor]
  exact do_xor H hwf hR r0 r2 hb hs hpw hbr
 by_cases h_eq:op=[101,113]
 ·rw[show doR ops hp op=doR ops hp [101,113]by rw[h_eq],h_eq]
  exact do_eq H hwf hR r0 r2 hb hs hpw hbr
 by_cases h_ne:op=[110,101]
 ·rw[show doR ops hp op=doR ops hp [110,101]by rw[h_ne],h_ne]
  exact do_ne H hwf hR r0 r2 hb hs hpw hbr
 by_cases h_not:op=[110,111,116]
 ·rw[show doR ops hp op=doR ops hp [110,111,116]by rw[h_not],h_not]
  exact do_not H hwf hR r0 r2 hb hs hpw hbr
 by_cases h_bitshift:op=[98,105,116,115,104,105,102,116]
 ·rw[show doR ops hp op=doR ops hp [98,105,116,115,104,105,102,116]by rw[h_bitshift],h_bitshift]
  exact do_bitshift H hwf hR r0 r2 hb hs hpw hbr
 by_cases h_true:op=[116,114,117,101]
 ·rw[show doR ops hp op=doR ops hp [116,114,117,101]by rw[h_true],h_true]
  exact do_true H hwf hR r0 r2 hb hs hpw hbr
 by_cases h_false:op=[102,97,108,115,101]
 ·rw[show doR ops hp op=doR ops hp [102,97,108,115,101]by rw[h_false],h_false]
  exact do_false H hwf hR r0 r2 hb hs hpw hbr
 by_cases h_null:op=[110,117,108,108]
 ·rw[show doR ops hp op=doR ops hp [110,117,108,108]by rw[h_null],h_null]
  exact do_null H hwf hR r0 r2 hb hs hpw hbr
 by_cases h_type:op=[116,121,112,101]
 ·rw[show doR ops hp op=doR ops hp [116,121,112,101]by rw[h_type],h_type]
  exact do_type H hwf hR r0 r2 hb hs hpw hbr
 by_cases h_xcheck:op=[120,99,104,101,99,107]
 ·rw[show doR ops hp op=doR ops hp [120,99,104,101,99,107]by rw[h_xcheck],h_xcheck]
  exact do_xcheck H hwf hR r0 r2 hb hs hpw hbr
 by_cases h_cvx:op=[99,118,120]
 ·rw[show doR ops hp op=doR ops hp [99,118,120]by rw[h_cvx],h_cvx]
  exact do_cvx H hwf hR r0 r2 hb hs hpw hbr
 by_cases h_cvlit:op=[99,118,108,105,116]
 ·rw[show doR ops hp op=doR ops hp [99,118,108,105,116]by rw[h_cvlit],h_cvlit]
  exact do_cvlit H hwf hR r0 r2 hb hs hpw hbr
 by_cases h_cvn:op=[99,118,110]
 ·rw[show doR ops hp op=doR ops hp [99,118,110]by rw[h_cvn],h_cvn]
  exact do_cvn H hwf hR r0 r2 hb hs hpw hbr
 by_cases h_cvi:op=[99,118,105]
 ·rw[show doR ops hp op=doR ops hp [99,118,105]by rw[h_cvi],h_cvi]
  exact do_cvi H hwf hR r0 r2 hb hs hpw hbr
 by_cases h_cvr:op=[99,118,114]
 ·rw[show doR ops hp op=doR ops hp [99,118,114]by rw[h_cvr],h_cvr]
  exact do_cvr H hwf hR r0 r2 hb hs hpw hbr
 by_cases h_cvs:op=[99,118,115]
 ·rw[show doR ops hp op=doR ops hp [99,118,115]by rw[h_cvs],h_cvs]
  exact do_cvs H hwf hR r0 r2 hb hs hpw hbr
 by_cases h_cvrs:op=[99,118,114,115]
 ·rw[show doR ops hp op=doR ops hp [99,118,114,115]by rw[h_cvrs],h_cvrs]
  exact do_cvrs H hwf hR r0 r2 hb hs hpw hbr
 have e:doR ops hp op=(24,[],[]):=by
  unfold doR
  simp only[if_neg h_lt,if_neg h_le,if_neg h_gt,if_neg h_ge,if_neg h_and,if_neg h_or,if_neg h_xor,if_neg h_eq,if_neg h_ne,if_neg h_not,if_neg h_bitshift,if_neg h_true,if_neg h_false,if_neg h_null,if_neg h_type,if_neg h_xcheck,if_neg h_cvx,if_neg h_cvlit,if_neg h_cvn,if_neg h_cvi,if_neg h_cvr,if_neg h_cvs,if_neg h_cvrs]
 rw[e]
 refine call_res H.e H.f rfl ?_
 have hlen:=hR.len
 have ht:=hR.take
 have s0:=RdS.sc r0
 have s1:=hR.sc
 have s2:=r2.sc
 have sr:=hR.all
 have z1:∀v,splice B.z457 0 (v::v1::v2::r)=v::v1::v2::r:=fun v=>splice_len (by rw[hR.len67,zSt_len])
 have d0:¬st.nx+1+1=st.nx:=by omega
 have d1:¬st.nx+1+1=st.nx+1:=by omega
 have d2:¬st.nx+1+1+1=st.nx:=by omega
 have d3:¬st.nx+1+1+1=st.nx+1:=by omega
 have d4:¬st.nx+1+1+1=st.nx+1+1:=by omega
 have d5:¬st.nx+1+1+1+1=st.nx:=by omega
 have d6:¬st.nx+1+1+1+1=st.nx+1:=by omega
 have d7:¬st.nx+1+1+1+1=st.nx+1+1:=by omega
 have d8:¬st.nx+1+1+1+1=st.nx+1+1+1:=by omega
 simp (disch:=omega) [B.logic_Do,go_sem,hlen,ht,d0,d1,d2,d3,d4,d5,d6,d7,d8,z1,zSt_len,s0,s1,s2,sr,mins,mfind,cellEqK,seq8_dec,h_lt,h_le,h_gt,h_ge,h_and,h_or,h_xor,h_eq,h_ne,h_not,h_bitshift,h_true,h_false,h_null,h_type,h_xcheck,h_cvx,h_cvlit,h_cvn,h_cvi,h_cvr,h_cvs,h_cvrs]
 have z:∀a b c d e,Ext st ⟨(st.nx+1+1+1+1,e)::(st.nx+1+1+1,d)::(st.nx+1+1,c)::(st.nx+1,b)::(st.nx,a)::st.h,st.nx+1+1+1+1+1⟩:=fun a b c d e=>
  (((((Ext.refl hwf).consN (Nat.lt_succ_self _)).consN (Nat.lt_succ_self _)).consN (Nat.lt_succ_self _)).consN (Nat.lt_succ_self _)).consN (Nat.lt_succ_self _)
 exact⟨(z _ _ _ _ _).dropLoc,.inl ⟨by decide,rfl⟩⟩
end Go.Ev

/- The law's own helpers told: one, gives. -/
namespace Go.Ev
open Go
variable {T : Tab} {st st' : St}
def zRest:List AV:=B.z457.drop 3
theorem zRest_ok:Rest .nilslice zRest:=⟨rfl,rfl,rfl⟩
theorem zSt_set (v w:AV):(B.z457.set 0 v).set 2 w=v:: .nilslice::w::zRest:=rfl
end Go.Ev

/- Plain laws of bits: De Morgan, shifts. -/
namespace Go.Ev
open Go
end Go.Ev

/- The law's own helpers told: i, b, r, gives. -/
namespace Go.Ev
open Go
variable {T : Tab} {st st' : St}
theorem int14_tells (H:B.H_chaselaw14_i T) (hwf:st.Wf) (n:Int):Tells T st (.fn 301 [] []) [.int .i64 n] (obInt n).v:=by
 refine tells_of H.e H.f rfl ?_
 have x0:=(Ext.refl hwf).consN (o:= .cells 451 true B.zOb) (Nat.lt_succ_self st.nx)
 simp (disch:=omega) [B.chaselaw14_i,go_sem,B.zOb,obInt]
 exact((Ext.refl hwf).consN (Nat.lt_succ_self st.nx))
theorem real14_tells (H:B.H_chaselaw14_r T) (hwf:st.Wf) (n:Int):Tells T st (.fn 307 [] []) [.int .i64 n] (obReal n).v:=by
 refine tells_of H.e H.f rfl ?_
 simp (disch:=omega) [B.chaselaw14_r,go_sem,B.zOb,obReal]
 exact((Ext.refl hwf).consN (Nat.lt_succ_self st.nx))
theorem bool10_tells (H:B.H_chaseref10_Bool T) (hwf:st.Wf) (b:Bool):Tells T st (.fn 325 [] []) [.bool b] (obBool b).v:=by
 refine tells_of H.e H.f rfl ?_
 cases b
 all_goals
  simp (disch:=omega) [B.chaseref10_Bool,go_sem,B.zOb,obBool]
  exact((Ext.refl hwf).consN (Nat.lt_succ_self st.nx))
theorem bool14_tells (H:B.H_chaselaw14_b T) (hwf:st.Wf) (b:Bool):Tells T st (.fn 302 [] []) [.bool b] (obBool b).v:=by
 refine tells_of H.e H.f rfl ?_
 have x0:=(Ext.refl hwf).consN (o:= .cells 451 true B.zOb) (Nat.lt_succ_self st.nx)
 simp (disch:=omega) [B.chaselaw14_b,go_sem]
 refine(bool10_tells H.chaseref10_Bool x0.wf b).use fun s1 x1=> ?_
 have k1:=x1.keep
 have y1:=x0.trans x1
 have n1:=x1.nx
 simp only at k1 n1
 simp (disch:=omega) [go_sem,k1,B.zOb]
 exact(Ext.setN (st:=st) (h:=s1.h) (m:=s1.nx) (n:=st.nx) y1 (by omega))
def givesB (hp:List Ce) (op:List UInt8) (want:Ob) (ops:List Ob):Bool:=decide ((doR ops hp op).1=0∧(doR ops hp op).2.1=[want])
theorem gives14_tells (H:B.H_chaselaw14_gives T) (hwf:st.Wf) {vh vl:AV} {ops:List Ob} {hp:List Ce} (r0:RdO st.h vl ops) (r2:HpR st.h vh hp) (hb:ops.length<1000000) (hs:HpS hp) (hpw:Pow st) (hbr:Bru st) (op:List UInt8) (want:Ob):
  Tells T st (.fn 312 [] []) [vh,.str op,want.v,vl] (.bool (givesB hp op want ops)):=by
 refine tells_of H.e H.f rfl ?_
 have s0:=RdS.sc r0
 have s2:=r2.sc
 have x0:=(Ext.refl hwf).consN (o:= .cells 451 true want.A) (Nat.lt_succ_self st.nx)
 have key:∀K:AV→St→Prop,(∀w s,(Ext ⟨(st.nx,.cells 451 true want.A)::st.h,st.nx+1⟩ s∧AnsH s w vl .nilslice vh zRest (doR ops hp op).1 (doR ops hp op).2.1 (doR ops hp op).2.2)→K w s)→CRes (call T (.fn 308 [] []) [.agg (vl:: .nilslice::vh::zRest),.str op] ⟨(st.nx,.cells 451 true want.A)::st.h,st.nx+1⟩) K:=
  fun K hK=>(do_res H.logic_Do x0.wf zRest_ok (r0.ext x0 hwf) (r2.ext x0 hwf) hb hs (hpw.ext x0 hwf) (hbr.ext x0 hwf) op).mono hK
 rcases r0.form hwf with ⟨e0,e0'⟩ | ⟨n0,off0,cp0,ob0,e0,_⟩ <;> rcases r2.form hwf with ⟨e2,e2'⟩ | ⟨n2,off2,cp2,ob2,e2,_⟩
 all_goals
  rw[e0,e2]at key
  simp (disch:=omega) [B.chaselaw14_gives,go_sem,zSt_len,zSt_set,e0,e2]
  refine key _ ?_
  rintro w s1 ⟨x1,ha⟩
  obtain⟨X,e',rfl,hX,hXs,hXt,hXz⟩:=ha.shape zRest_ok rfl rfl
  have k1:=x1.keep
  have y1:=x0.trans x1
  have n1:=x1.nx
  simp only at k1 n1
  have d1:¬s1.nx=st.nx:=by omega
  have z:∀p,Ext st ⟨(s1.nx,p)::s1.h,s1.nx+1+17⟩:=fun p=>y1.consN (by omega)
  rcases ha with ⟨h1,h2⟩ | ⟨h1,v',u',h2,h3,h4⟩
  ·injection h2 with h2
   injection h2 with h2 h5
   injection h5 with h5
   injection h5 with h6 h7
   have e:givesB hp op want ops=false:=by unfold givesB;exact decide_eq_false (fun h=>h1 h.1)
   rw[e]
   simp (disch:=omega) [go_sem,k1,hX,hXs,hXt,hXz,zSt_len,h7,h1,d1]
   exact z _
  ·injection h2 with h2
   injection h2 with h2 h5
   injection h5 with h5
   injection h5 with h6 h7
   injection h2 with h2
   have hl:=h3.lenLV
   subst h7 h2
   by_cases hl1:(doR ops hp op).2.1.length=1
   ·obtain⟨oo,hoo⟩:∃oo,(doR ops hp op).2.1=[oo]:=List.length_eq_one_iff.1 hl1
    have e:givesB hp op want ops=decide (oo=want):=by unfold givesB;rw[hoo];simp[h1]
    rw[e]
    rw[hoo]at h3 hl
    obtain⟨n,off,ob,hat⟩:=h3.acc y1.wf
    obtain⟨a1,a2,a3,a4⟩:=hat 0 oo (by omega) rfl
    simp only[Int.toNat_zero,Nat.zero_mul,Nat.add_zero]at a3 a4
    have d2:¬s1.nx=n:=by omega
    have heq:=eqOb oo want
    simp only[ksOb,Ob.A]at heq
    simp (disch:=omega) [go_sem,↓PO_lenL,↓PO_iaddr,k1,hXs,hXt,hXz,zSt_len,hl,d1,d2,a2,a3,a4,zRest_ok.len,zRest_ok.take,heq]
    exact z _
   ·have e:givesB hp op want ops=false:=by unfold givesB;exact decide_eq_false (fun h=>hl1 (by rw[h.2];rfl))
    rw[e]
    have hl2:¬(((doR ops hp op).2.1.length:Nat):Int)=1:=by omega
    simp (disch:=omega) [go_sem,↓PO_lenL,k1,hXs,hXt,hXz,zSt_len,hl,hl2,d1,zRest_ok.len,zRest_ok.take]
    exact z _
end Go.Ev

/- Slices of objects compared. -/
namespace Go.Ev
open Go
variable {T : Tab} {st st' : St}
theorem take_step {α:Type} {a b:List α} {i:Nat} (h:a.take i=b.take i) (hi:a[i]? =b[i]?):a.take (i+1)=b.take (i+1):=by
 rw[List.take_add_one,List.take_add_one,h,hi]
theorem sameObjs_l0 (hwf:st.Wf) {va vb:AV} {a b:List Ob} (ra:RdO st.h va a) (rb:RdO st.h vb b) (hab:a.length=b.length) (hl:a.length<1000000000):∀(m i k:Nat) (e:Env),st.nx≤k→i+m=a.length→a.take i=b.take i→eget e 0=va→eget e 1=vb→eget e 5= .int .i64 i→
  Res (run T (.loop B.chaseref11_sameObjs_l0) e ⟨st.h,k⟩) fun q e' s'=>s'.h=st.h∧st.nx≤s'.nx∧((q= .ret∧a≠b∧eget e' 4= .bool false)∨(q= .exit 0∧a=b)):=by
 intro m
 have la:=ra.lenLV
 have lb:=rb.lenLV
 induction m with
 | zero=>
   intro i k e hk hi hn g0 g1 g5
   rw[run_loop]
   have:¬(i:Int)<a.length:=by omega
   have hx:a=b:=by
    rw[List.take_of_length_le (by omega),List.take_of_length_le (by omega)]at hn
    exact hn
   simp[B.chaseref11_sameObjs_l0,go_sem,↓PO_lenL,la,g0,g1,g5,this,eq_true hx,hk]
 | succ m ih=>
   intro i k e hk hi hn g0 g1 g5
   rw[run_loop]
   have h1:(i:Int)<a.length:=by omega
   obtain⟨x,hx⟩:∃x,a[i]? =some x:=⟨_,List.getElem?_eq_getElem (by omega)⟩
   obtain⟨y,hy⟩:∃y,b[i]? =some y:=⟨_,List.getElem?_eq_getElem (by omega)⟩
   obtain⟨n,off,ob,hat⟩:=ra.acc hwf
   obtain⟨a1,a2,a3,a4⟩:=hat i x (by omega) (by simpa using hx)
   obtain⟨n',off',ob',hat'⟩:=rb.acc hwf
   obtain⟨b1,b2,b3,b4⟩:=hat' i y (by omega) (by simpa using hy)
   simp only[Int.toNat_natCast]at a3 a4 b3 b4
   have heq:=eqOb x y
   simp only[ksOb,Ob.A]at heq
   by_cases hxy:x=y
   ·simp (disch:=omega) [B.chaseref11_sameObjs_l0,go_sem,↓PO_lenL,↓PO_iaddr,la,lb,g0,g1,g5,h1,a2,a3,a4,b2,b3,b4,heq,eq_true hxy]
    refine ih (i+1) (k+9) _ (by omega) (by omega) (take_step hn (by rw[hx,hy,hxy])) ?_ ?_ ?_ <;> simp[go_sem,g0,g1]
   ·have hne:a≠b:=fun h=>hxy (by rw[h,hy]at hx;injection hx with hx;exact hx.symm)
    simp (disch:=omega) [B.chaseref11_sameObjs_l0,go_sem,↓PO_lenL,↓PO_iaddr,la,lb,g0,g1,g5,h1,a2,a3,a4,b2,b3,b4,heq,hxy]
    exact⟨by omega,hne⟩
theorem sameObjs_tells (H:B.H_chaseref11_sameObjs T) (hwf:st.Wf) {va vb:AV} {a b:List Ob} (ra:RdO st.h va a) (rb:RdO st.h vb b) (hl:a.length<1000000000):Tells T st (.fn 360 [] []) [va,vb] (.bool (decide (a=b))):=by
 refine tells_of H.e H.f rfl ?_
 have la:=ra.lenLV
 have lb:=rb.lenLV
 by_cases hab:a.length=b.length
 ·have hab':(a.length:Int)=b.length:=by omega
  simp[B.chaseref11_sameObjs,go_sem,↓PO_lenL,la,lb,hab',RdS.sc ra,RdS.sc rb]
  refine(sameObjs_l0 hwf ra rb hab hl a.length 0 _ _ (Nat.le_refl _) (by omega) rfl (by simp[go_sem]) (by simp[go_sem]) (by simp[go_sem])).mono ?_
  rintro q e' ⟨sh,sn⟩ ⟨e1,e2,⟨rfl,hne,h4⟩ | ⟨rfl,he⟩⟩ <;> simp only at e1 e2 <;> subst e1
  ·simp[go_sem,h4,hne];exact(Ext.refl hwf).upN e2
  ·simp[go_sem,he];exact(Ext.refl hwf).upN e2
 ·have hab':¬(a.length:Int)=b.length:=by omega
  have hne:a≠b:=fun h=>hab (by rw[h])
  simp[B.chaseref11_sameObjs,go_sem,↓PO_lenL,la,lb,hab',hne,RdS.sc ra,RdS.sc rb]
  exact Ext.refl hwf
theorem equalObjs_l0 (hwf:st.Wf) {va vb:AV} {a b:List Ob} (ra:RdO st.h va a) (rb:RdO st.h vb b) (hab:a.length=b.length) (hl:a.length<1000000000):∀(m i k:Nat) (e:Env),st.nx≤k→i+m=a.length→a.take i=b.take i→eget e 0=va→eget e 1=vb→eget e 12= .int .i64 a.length→eget e 13= .int .i64 i→
  Res (run T (.loop B.slices_Equal_api_Obj_api_Obj_l0) e ⟨st.h,k⟩) fun q e' s'=>s'.h=st.h∧st.nx≤s'.nx∧((q= .ret∧a≠b∧eget e' 4= .bool false)∨(q= .exit 0∧a=b)):=by
 intro m
 induction m with
 | zero=>
   intro i k e hk hi hn g0 g1 g4 g5
   rw[run_loop]
   have:¬(i:Int)<a.length:=by omega
   have hx:a=b:=by
    rw[List.take_of_length_le (by omega),List.take_of_length_le (by omega)]at hn
    exact hn
   simp[B.slices_Equal_api_Obj_api_Obj_l0,go_sem,g0,g1,g4,g5,this,eq_true hx,hk]
 | succ m ih=>
   intro i k e hk hi hn g0 g1 g4 g5
   rw[run_loop]
   have h1:(i:Int)<a.length:=by omega
   obtain⟨x,hx⟩:∃x,a[i]? =some x:=⟨_,List.getElem?_eq_getElem (by omega)⟩
   obtain⟨y,hy⟩:∃y,b[i]? =some y:=⟨_,List.getElem?_eq_getElem (by omega)⟩
   obtain⟨n,off,ob,hat⟩:=ra.acc hwf
   obtain⟨a1,a2,a3,a4⟩:=hat i x (by omega) (by simpa using hx)
   obtain⟨n',off',ob',hat'⟩:=rb.acc hwf
   obtain⟨b1,b2,b3,b4⟩:=hat' i y (by omega) (by simpa using hy)
   simp only[Int.toNat_natCast]at a3 a4 b3 b4
   have heq:=eqOb x y
   simp only[ksOb,Ob.A]at heq
   by_cases hxy:x=y
   ·simp (disch:=omega) [B.slices_Equal_api_Obj_api_Obj_l0,go_sem,↓PO_lenL,↓PO_iaddr,g0,g1,g4,g5,h1,a2,a3,a4,b2,b3,b4,heq,eq_true hxy]
    refine ih (i+1) (k+9) _ (by omega) (by omega) (take_step hn (by rw[hx,hy,hxy])) ?_ ?_ ?_ ?_ <;> simp[go_sem,g0,g1,g4]
   ·have hne:a≠b:=fun h=>hxy (by rw[h,hy]at hx;injection hx with hx;exact hx.symm)
    simp (disch:=omega) [B.slices_Equal_api_Obj_api_Obj_l0,go_sem,↓PO_lenL,↓PO_iaddr,g0,g1,g4,g5,h1,a2,a3,a4,b2,b3,b4,heq,hxy]
    exact⟨by omega,hne⟩
theorem equalObjs_tells (H:B.H_slices_Equal_api_Obj_api_Obj T) (hwf:st.Wf) {va vb:AV} {a b:List Ob} (ra:RdO st.h va a) (rb:RdO st.h vb b) (hl:a.length<1000000000):Tells T st (.fn 358 [] []) [va,vb] (.bool (decide (a=b))):=by
 refine tells_of H.e H.f rfl ?_
 have la:=ra.lenLV
 have lb:=rb.lenLV
 by_cases hab:a.length=b.length
 ·have hab':(a.length:Int)=b.length:=by omega
  simp[B.slices_Equal_api_Obj_api_Obj,go_sem,↓PO_lenL,la,lb,hab',RdS.sc ra,RdS.sc rb]
  refine(equalObjs_l0 hwf ra rb hab hl a.length 0 _ _ (Nat.le_refl _) (by omega) rfl (by simp[go_sem]) (by simp[go_sem]) (by simp[go_sem,hab']) (by simp[go_sem])).mono ?_
  rintro q e' ⟨sh,sn⟩ ⟨e1,e2,⟨rfl,hne,h4⟩ | ⟨rfl,he⟩⟩ <;> simp only at e1 e2 <;> subst e1
  ·simp[go_sem,h4,hne];exact(Ext.refl hwf).upN e2
  ·simp[go_sem,he];exact(Ext.refl hwf).upN e2
 ·have hab':¬(a.length:Int)=b.length:=by omega
  have hne:a≠b:=fun h=>hab (by rw[h])
  simp[B.slices_Equal_api_Obj_api_Obj,go_sem,↓PO_lenL,la,lb,hab',hne,RdS.sc ra,RdS.sc rb]
  exact Ext.refl hwf
end Go.Ev

/- Heaps compared; fails, writes. -/
namespace Go.Ev
open Go
variable {T : Tab} {st st' : St}
theorem sameCell_tells (H:B.H_chaseref11_SameCell T) (hwf:st.Wf) {c d:Ce} {x y:List AV} (hc:CeR st.h c x) (hd:CeR st.h d y) (h1:c.it.length<1000000000) (h2:c.ks.length<1000000000) (h3:c.vs.length<1000000000):Tells T st (.fn 402 [] []) [.agg x,.agg y] (.bool (decide (c=d))):=by
 refine tells_of H.e H.f rfl ?_
 obtain⟨p,q,r,rfl,ri,rk,rv⟩:=hc.row
 obtain⟨p',q',r',rfl,ri',rk',rv'⟩:=hd.row
 have x0:=((Ext.refl hwf).consN (o:= .cells 486 true [.int .i64 c.k,.str c.b,p,q,r,.int .i64 c.mx,.int .i64 c.at']) (Nat.lt_succ_self st.nx)).consN (o:= .cells 486 true [.int .i64 d.k,.str d.b,p',q',r',.int .i64 d.mx,.int .i64 d.at']) (Nat.lt_succ_self (st.nx+1))
 have s1:=RdS.sc ri
 have s2:=RdS.sc rk
 have s3:=RdS.sc rv
 have s1':=RdS.sc ri'
 have s2':=RdS.sc rk'
 have s3':=RdS.sc rv'
 have d0:¬st.nx+1=st.nx:=by omega
 obtain⟨R,hR⟩:∃R,decide (c=d)=R:=⟨_,rfl⟩
 rw[hR]
 by_cases e1:c.k=d.k
 case neg=>
  have:R=false:=by rw[←hR];exact decide_eq_false (fun h=>e1 (by rw[h]))
  simp (disch:=omega) [B.chaseref11_SameCell,go_sem,s1,s2,s3,s1',s2',s3',d0,e1,this]
  exact x0.upN (by simp)
 by_cases e2:c.b=d.b
 case neg=>
  have:R=false:=by rw[←hR];exact decide_eq_false (fun h=>e2 (by rw[h]))
  simp (disch:=omega) [B.chaseref11_SameCell,go_sem,s1,s2,s3,s1',s2',s3',d0,eq_true e1,seq8_dec,e2,this]
  exact x0.upN (by simp)
 simp (disch:=omega) [B.chaseref11_SameCell,go_sem,s1,s2,s3,s1',s2',s3',d0,eq_true e1,seq8_dec,eq_true e2]
 refine(sameObjs_tells H.chaseref11_sameObjs x0.wf (ri.ext x0 hwf) (ri'.ext x0 hwf) h1).use fun q1 x1=> ?_
 have k1:=x1.keep
 have y1:=x0.trans x1
 have n1:=x1.nx
 simp only at k1 n1
 by_cases e3:c.it=d.it
 case neg=>
  have:R=false:=by rw[←hR];exact decide_eq_false (fun h=>e3 (by rw[h]))
  simp (disch:=omega) [go_sem,k1,s1,s2,s3,s1',s2',s3',d0,e3,this]
  exact y1.upN (by simp)
 simp (disch:=omega) [go_sem,k1,s1,s2,s3,s1',s2',s3',d0,eq_true e3]
 refine(sameObjs_tells H.chaseref11_sameObjs y1.wf (rk.ext y1 hwf) (rk'.ext y1 hwf) h2).use fun q2 x2=> ?_
 have k2:=x2.keep
 have y2:=y1.trans x2
 have n2:=x2.nx
 by_cases e4:c.ks=d.ks
 case neg=>
  have:R=false:=by rw[←hR];exact decide_eq_false (fun h=>e4 (by rw[h]))
  simp (disch:=omega) [go_sem,k1,k2,s1,s2,s3,s1',s2',s3',d0,e4,this]
  exact y2.upN (by simp)
 simp (disch:=omega) [go_sem,k1,k2,s1,s2,s3,s1',s2',s3',d0,eq_true e4]
 refine(sameObjs_tells H.chaseref11_sameObjs y2.wf (rv.ext y2 hwf) (rv'.ext y2 hwf) h3).use fun q3 x3=> ?_
 have k3:=x3.keep
 have y3:=y2.trans x3
 have n3:=x3.nx
 by_cases e5:c.vs=d.vs
 case neg=>
  have:R=false:=by rw[←hR];exact decide_eq_false (fun h=>e5 (by rw[h]))
  simp (disch:=omega) [go_sem,k1,k2,k3,s1,s2,s3,s1',s2',s3',d0,e5,this]
  exact y3.upN (by simp)
 by_cases e6:c.mx=d.mx
 case neg=>
  have:R=false:=by rw[←hR];exact decide_eq_false (fun h=>e6 (by rw[h]))
  simp (disch:=omega) [go_sem,k1,k2,k3,s1,s2,s3,s1',s2',s3',d0,eq_true e5,e6,this]
  exact y3.upN (by simp)
 have:R=decide (c.at'=d.at'):=by
  rw[←hR]
  cases c;cases d
  simp only[Ce.mk.injEq]at*
  simp[e1,e2,e3,e4,e5,e6]
 simp (disch:=omega) [go_sem,k1,k2,k3,s1,s2,s3,s1',s2',s3',d0,eq_true e5,eq_true e6,this]
 exact y3.upN (by simp)
def HpL (hp:List Ce):Prop:=∀c∈hp,c.it.length<1000000000∧c.ks.length<1000000000∧c.vs.length<1000000000
theorem same11_l0 (H:B.H_chaseref11_Same T) (hwf:st.Wf) {va vb:AV} {a b:List Ce} (ra:HpR st.h va a) (rb:HpR st.h vb b) (hab:a.length=b.length) (hl:a.length<1000000000) (hL:HpL a):∀(m i:Nat) (e:Env) (st1:St),Ext st st1→i+m=a.length→a.take i=b.take i→eget e 0=va→eget e 1=vb→eget e 5= .int .i64 i→
  Res (run T (.loop B.chaseref11_Same_l0) e st1) fun q e' s'=>Ext st s'∧((q= .ret∧a≠b∧eget e' 4= .bool false)∨(q= .exit 0∧a=b)):=by
 intro m
 have la:=ra.lenLV
 have lb:=rb.lenLV
 induction m with
 | zero=>
   intro i e st1 hk hi hn g0 g1 g5
   rw[run_loop]
   have:¬(i:Int)<a.length:=by omega
   have hx:a=b:=by
    rw[List.take_of_length_le (by omega),List.take_of_length_le (by omega)]at hn
    exact hn
   simp[B.chaseref11_Same_l0,go_sem,↓PO_lenL,la,g0,g1,g5,this,eq_true hx,hk]
 | succ m ih=>
   intro i e st1 hk hi hn g0 g1 g5
   rw[run_loop]
   have h1:(i:Int)<a.length:=by omega
   obtain⟨x,hx⟩:∃x,a[i]? =some x:=⟨_,List.getElem?_eq_getElem (by omega)⟩
   obtain⟨y,hy⟩:∃y,b[i]? =some y:=⟨_,List.getElem?_eq_getElem (by omega)⟩
   obtain⟨n,off,ob,hat⟩:=(ra.ext hk hwf).acc hk.wf
   obtain⟨a1,a2,a3,X,a4,a5⟩:=hat i x (by omega) (by simpa using hx)
   obtain⟨n',off',ob',hat'⟩:=(rb.ext hk hwf).acc hk.wf
   obtain⟨b1,b2,b3,Y,b4,b5⟩:=hat' i y (by omega) (by simpa using hy)
   simp only[Int.toNat_natCast]at a3 a4 b3 b4
   obtain⟨l1,l2,l3⟩:=hL x (List.mem_of_getElem? hx)
   have xk:Ext st1 ⟨st1.h,st1.nx+10⟩:=(Ext.refl hk.wf).upN (by omega)
   simp (disch:=omega) [B.chaseref11_Same_l0,go_sem,↓PO_lenL,↓PO_iaddr,la,lb,g0,g1,g5,h1,a2,a3,a4,b2,b3,b4]
   refine(sameCell_tells H.chaseref11_SameCell xk.wf (a5.ext xk hk.wf) (b5.ext xk hk.wf) l1 l2 l3).use fun q1 x1=> ?_
   have y1:=(hk.trans xk).trans x1
   by_cases hxy:x=y
   ·simp (disch:=omega) [go_sem,↓PO_lenL,↓PO_iaddr,la,lb,g0,g1,g5,eq_true hxy]
    refine ih (i+1) _ _ y1 (by omega) (take_step hn (by rw[hx,hy,hxy])) ?_ ?_ ?_ <;> simp[go_sem,g0,g1]
   ·have hne:a≠b:=fun h=>hxy (by rw[h,hy]at hx;injection hx with hx;exact hx.symm)
    simp (disch:=omega) [go_sem,↓PO_lenL,↓PO_iaddr,la,lb,g0,g1,g5,hxy]
    exact⟨y1,hne⟩
theorem same11_tells (H:B.H_chaseref11_Same T) (hwf:st.Wf) {va vb:AV} {a b:List Ce} (ra:HpR st.h va a) (rb:HpR st.h vb b) (hl:a.length<1000000000) (hL:HpL a):Tells T st (.fn 359 [] []) [va,vb] (.bool (decide (a=b))):=by
 refine tells_of H.e H.f rfl ?_
 have la:=ra.lenLV
 have lb:=rb.lenLV
 by_cases hab:a.length=b.length
 ·have hab':(a.length:Int)=b.length:=by omega
  simp[B.chaseref11_Same,go_sem,↓PO_lenL,la,lb,hab',ra.sc,rb.sc]
  refine(same11_l0 H hwf ra rb hab hl hL a.length 0 _ _ (Ext.refl hwf) (by omega) rfl (by simp[go_sem]) (by simp[go_sem]) (by simp[go_sem])).mono ?_
  rintro q e' s' ⟨hx,⟨rfl,hne,h4⟩ | ⟨rfl,he⟩⟩
  ·simp[go_sem,h4,hne];exact hx
  ·simp[go_sem,he];exact hx
 ·have hab':¬(a.length:Int)=b.length:=by omega
  have hne:a≠b:=fun h=>hab (by rw[h])
  simp[B.chaseref11_Same,go_sem,↓PO_lenL,la,lb,hab',hne,ra.sc,rb.sc]
  exact Ext.refl hwf
def failsB (hp:List Ce) (op:List UInt8) (want:Int) (ops:List Ob):Bool:=decide ((doR ops hp op).1=want∧((doR ops hp op).1=0→(doR ops hp op).2.1=ops∧(doR ops hp op).2.2=hp))
set_option maxHeartbeats 2000000 in
theorem fails14_tells (H:B.H_chaselaw14_fails T) (hwf:st.Wf) {vh vl:AV} {ops:List Ob} {hp:List Ce} (r0:RdO st.h vl ops) (r2:HpR st.h vh hp) (hb:ops.length<1000000) (hb2:hp.length<1000000) (hL:HpL hp) (hs:HpS hp) (hpw:Pow st) (hbr:Bru st) (op:List UInt8) (want:Int) (hw:want≠0):
  Tells T st (.fn 314 [] []) [vh,.str op,.int .i64 want,vl] (.bool (failsB hp op want ops)):=by
 refine tells_of H.e H.f rfl ?_
 have s0:=RdS.sc r0
 have s2:=r2.sc
 have key:∀K:AV→St→Prop,(∀w s,(Ext st s∧AnsH s w vl .nilslice vh zRest (doR ops hp op).1 (doR ops hp op).2.1 (doR ops hp op).2.2)→K w s)→CRes (call T (.fn 308 [] []) [.agg (vl:: .nilslice::vh::zRest),.str op] st) K:=
  fun K hK=>(do_res H.logic_Do hwf zRest_ok r0 r2 hb hs hpw hbr op).mono hK
 rcases r0.form hwf with ⟨e0,e0'⟩ | ⟨n0,off0,cp0,ob0,e0,_⟩ <;> rcases r2.form hwf with ⟨e2,e2'⟩ | ⟨n2,off2,cp2,ob2,e2,_⟩
 all_goals
  rw[e0,e2]at key
  simp (disch:=omega) [B.chaselaw14_fails,go_sem,zSt_len,zSt_set,e0,e2]
  refine key _ ?_
  rintro w s1 ⟨x1,ha⟩
  obtain⟨X,e',rfl,hX,hXs,hXt,hXz⟩:=ha.shape zRest_ok rfl rfl
  have k1:=x1.keep
  have n1:=x1.nx
  have z:∀p,Ext st ⟨(s1.nx,p)::s1.h,s1.nx+1⟩:=fun p=>x1.consN (by omega)
  rcases ha with ⟨h1,h2⟩ | ⟨h1,v',u',h2,h3,h4⟩
  ·injection h2 with h2
   injection h2 with h2 h5
   injection h5 with h5
   injection h5 with h6 h7
   injection h2 with h2
   subst h2
   by_cases hw1:(doR ops hp op).1=want
   ·have e:failsB hp op want ops=true:=by unfold failsB;exact decide_eq_true ⟨hw1,fun h=>absurd h h1⟩
    rw[e]
    have xz:=z (.cells 457 true (vl:: .nilslice::vh::zRest))
    rw[e0,e2]at xz
    have q0:=r0.ext xz hwf
    have q2:=r2.ext xz hwf
    rw[e0]at q0
    rw[e2]at q2
    simp (disch:=omega) [go_sem,k1,hX,hXs,hXt,hXz,zSt_len,h7,hw1,zRest_ok.len,zRest_ok.take]
    refine(equalObjs_tells H.slices_Equal_api_Obj_api_Obj xz.wf q0 q0 (by omega)).use fun s2 x2=> ?_
    have k2:=x2.keep
    have n2:=x2.nx
    simp only at k2 n2
    have y2:=xz.trans x2
    simp (disch:=omega) [go_sem,k1,k2,hX,hXs,hXt,hXz,zSt_len,zRest_ok.len,zRest_ok.take]
    refine(same11_tells H.chaseref11_Same y2.wf (q2.ext x2 xz.wf) (q2.ext x2 xz.wf) (by omega) hL).use fun s3 x3=> ?_
    have y3:=y2.trans x3
    simp (disch:=omega) [go_sem,k1,k2,y3]
   ·have e:failsB hp op want ops=false:=by unfold failsB;exact decide_eq_false (fun h=>hw1 h.1)
    rw[e]
    simp (disch:=omega) [go_sem,k1,hX,hXs,hXt,hXz,zSt_len,h7,hw1,zRest_ok.len,zRest_ok.take]
    exact z _
  ·have e:failsB hp op want ops=false:=by unfold failsB;exact decide_eq_false (fun h=>hw (by rw[←h.1,h1]))
   rw[e]
   injection h2 with h2
   injection h2 with h2 h5
   injection h5 with h5
   injection h5 with h6 h7
   injection h2 with h2
   subst h7 h2
   have hw1:¬(0:Int)=want:=fun h=>hw h.symm
   simp (disch:=omega) [go_sem,k1,hX,hXs,hXt,hXz,zSt_len,hw1,zRest_ok.len,zRest_ok.take]
   exact z _
end Go.Ev

/- The law's own helpers told: writes. -/
namespace Go.Ev
open Go
variable {T : Tab} {st st' : St}
def writesB (hp:List Ce) (op:List UInt8) (want:List UInt8) (ops:List Ob):Bool:=
 decide ((doR ops hp op).1=0∧(doR ops hp op).2.1.length=1) &&
  (decide (((doR ops hp op).2.1.getD 0 obZ).k=6∧((doR ops hp op).2.1.getD 0 obZ).r=(ops.getD (ops.length - 1) obZ).r) &&
    decide ((bytesE (doR ops hp op).2.2 ((doR ops hp op).2.1.getD 0 obZ)).2=0∧(bytesE (doR ops hp op).2.2 ((doR ops hp op).2.1.getD 0 obZ)).1=want))
set_option maxHeartbeats 4000000 in
theorem writes14_tells (H:B.H_chaselaw14_writes T) (hwf:st.Wf) {vh vl:AV} {ops:List Ob} {hp:List Ce} (r0:RdO st.h vl ops) (r2:HpR st.h vh hp) (hb:ops.length<1000000) (h0:ops≠[]) (hs:HpS hp) (hpw:Pow st) (hbr:Bru st) (op want:List UInt8):
  Tells T st (.fn 313 [] []) [vh,.str op,.str want,vl] (.bool (writesB hp op want ops)):=by
 refine tells_of H.e H.f rfl ?_
 have s0:=RdS.sc r0
 have s2:=r2.sc
 have ll:=r0.lenLV
 have hpos:0<ops.length:=List.length_pos_iff.2 h0
 have key:∀K:AV→St→Prop,(∀w s,(Ext st s∧AnsH s w vl .nilslice vh zRest (doR ops hp op).1 (doR ops hp op).2.1 (doR ops hp op).2.2)→K w s)→CRes (call T (.fn 308 [] []) [.agg (vl:: .nilslice::vh::zRest),.str op] st) K:=
  fun K hK=>(do_res H.logic_Do hwf zRest_ok r0 r2 hb hs hpw hbr op).mono hK
 rcases r0.form hwf with ⟨e0,e0'⟩ | ⟨n0,off0,cp0,ob0,e0,_⟩
 ·exact absurd e0' h0
 rcases r2.form hwf with ⟨e2,e2'⟩ | ⟨n2,off2,cp2,ob2,e2,_⟩
 all_goals
  rw[e0,e2]at key
  simp (disch:=omega) [B.chaselaw14_writes,go_sem,zSt_len,zSt_set,e0,e2]
  refine key _ ?_
  rintro w s1 ⟨x1,ha⟩
  obtain⟨X,e',rfl,hX,hXs,hXt,hXz⟩:=ha.shape zRest_ok rfl rfl
  have k1:=x1.keep
  have n1:=x1.nx
  have z:∀p k,Ext st ⟨(s1.nx,p)::s1.h,s1.nx+1+k⟩:=fun p k=>x1.consN (by omega)
  rcases ha with ⟨h1,h2⟩ | ⟨h1,v',u',h2,h3,h4⟩
  ·injection h2 with h2
   injection h2 with h2 h5
   injection h5 with h5
   injection h5 with h6 h7
   have e:writesB hp op want ops=false:=by unfold writesB;rw[decide_eq_false (fun h=>h1 h.1)];rfl
   rw[e]
   simp (disch:=omega) [go_sem,k1,hX,hXs,hXt,hXz,zSt_len,h7,h1,zRest_ok.len,zRest_ok.take]
   exact z _ _
  ·injection h2 with h2
   injection h2 with h2 h5
   injection h5 with h5
   injection h5 with h6 h7
   injection h2 with h2
   have hl:=h3.lenLV
   subst h7 h2
   by_cases hl1:(doR ops hp op).2.1.length=1
   ·obtain⟨oo,hoo⟩:∃oo,(doR ops hp op).2.1=[oo]:=List.length_eq_one_iff.1 hl1
    obtain⟨ol,hol⟩:∃ol,ops.getD (ops.length - 1) obZ=ol:=⟨_,rfl⟩
    have hol':ops[ops.length - 1]? =some ol:=by rw[←hol,List.getD_eq_getElem?_getD,List.getElem?_eq_getElem (by omega)];rfl
    have e:writesB hp op want ops=(decide (oo.k=6∧oo.r=ol.r) && decide ((bytesE (doR ops hp op).2.2 oo).2=0∧(bytesE (doR ops hp op).2.2 oo).1=want)):=by
     unfold writesB;rw[hoo,hol,decide_eq_true ⟨h1,rfl⟩];rfl
    rw[e]
    rw[hoo]at h3 hl
    obtain⟨n,off,ob,hat⟩:=h3.acc x1.wf
    obtain⟨a1,a2,a3,a4⟩:=hat 0 oo (by omega) rfl
    simp only[Int.toNat_zero,Nat.zero_mul,Nat.add_zero]at a3 a4
    obtain⟨n',off',ob',hat'⟩:=(r0.ext x1 hwf).acc x1.wf
    obtain⟨b1,b2,b3,b4⟩:=hat' ((ops.length:Int) - 1) ol (by omega) (by rw[show ((ops.length:Int) - 1).toNat=ops.length - 1 by omega];exact hol')
    rw[show ((ops.length:Int) - 1).toNat=ops.length - 1 by omega]at b3 b4
    rw[e0]at b3 ll
    have b5:=rdOb_one b4 (i:=4) (by omega)
    have a5:=rdOb_one a4 (i:=4) (by omega)
    have a6:=rdOb_one a4 (i:=0) (by omega)
    simp only[Ob.A,List.getElem?_cons_zero,List.getElem?_cons_succ,Nat.add_zero]at a5 a6 b5
    have d2:¬s1.nx=n:=by omega
    have d3:¬s1.nx=n':=by omega
    have hli:IntKind.i64.wrap ((ops.length:Int) - 1)=(ops.length:Int) - 1:=wrap64' (by omega) (by omega)
    by_cases hk6:oo.k=6
    ·by_cases hr:oo.r=ol.r
     ·simp (disch:=omega) [go_sem,↓PO_lenL,↓PO_iaddr,k1,hXs,hXt,hXz,zSt_len,hl,ll,d2,d3,a2,a3,a4,a5,a6,b2,b3,b5,eq_true hk6,eq_true hr,hli,zRest_ok.len,zRest_ok.take]
      have xz:Ext s1 ⟨(s1.nx,.cells 457 true (v':: .nilslice::u'::zRest))::s1.h,s1.nx+1+31+12⟩:=(Ext.refl x1.wf).consN (by omega)
      refine(bytes_tells H.heap_Bytes xz.wf (h4.ext xz x1.wf) oo).use fun s2 x2=> ?_
      have k2:=x2.keep
      have n2:=x2.nx
      simp only at k2 n2
      have y2:=(x1.trans xz).trans x2
      generalize bytesE (doR ops hp op).2.2 oo=bb
      by_cases hbb:bb.2=0
      ·simp (disch:=omega) [go_sem,eq_true hbb,seq8_dec]
       exact y2
      ·simp (disch:=omega) [go_sem,hbb,seq8_dec]
       exact y2
     ·simp (disch:=omega) [go_sem,↓PO_lenL,↓PO_iaddr,k1,hXs,hXt,hXz,zSt_len,hl,ll,d2,d3,a2,a3,a4,a5,a6,b2,b3,b5,eq_true hk6,hr,hli,zRest_ok.len,zRest_ok.take]
      exact z _ _
    ·simp (disch:=omega) [go_sem,↓PO_lenL,↓PO_iaddr,k1,hXs,hXt,hXz,zSt_len,hl,d2,a2,a3,a4,a6,hk6,zRest_ok.len,zRest_ok.take]
     exact z _ _
   ·have e:writesB hp op want ops=false:=by unfold writesB;rw[decide_eq_false (fun h=>hl1 h.2)];rfl
    rw[e]
    have hl2:¬(((doR ops hp op).2.1.length:Nat):Int)=1:=by omega
    simp (disch:=omega) [go_sem,↓PO_lenL,k1,hXs,hXt,hXz,zSt_len,hl,hl2,zRest_ok.len,zRest_ok.take]
    exact z _ _
end Go.Ev

/- The law's own helpers told: strings. -/
namespace Go.Ev
open Go
variable {T : Tab} {st st' : St}
def GrowS (ty es:Nat) (st0 s:St) (v:AV) (k:Nat) (cs:List AV):Prop:=Sl s v ty es k cs∧Mine [] st0 v∧NK v
theorem GrowS.nil (ty es:Nat) (st0 s:St):GrowS ty es st0 s .nilslice 0 []:=⟨.nil _ _ _,.nil _ _,fun _ _ _ _ h=>by cases h⟩
theorem GrowS.ge {ty es:Nat} {st0 s:St} {v:AV} {k:Nat} {cs:List AV} (a:GrowS ty es st0 s v k cs):∀n∈v.nms,st0.nx≤n:=fun n hn=>by
 rcases a.2.1 n hn with h | h
 ·cases h
 ·exact h
theorem GrowS.frm {ty es:Nat} {st0 s s':St} {v:AV} {k:Nat} {cs:List AV} {S:List Nat} (a:GrowS ty es st0 s v k cs) (f:Frm S s s') (hw:s.Wf) (hn:∀n∈v.nms,n∉S):GrowS ty es st0 s' v k cs:=⟨a.1.frm f hw hn,a.2.1,a.2.2⟩
theorem GrowS.dropLoc {ty es:Nat} {st0 s:St} {v:AV} {k c:Nat} {cs:List AV} (a:GrowS ty es st0 s v k cs) (hw:s.Wf):GrowS ty es st0 ⟨Go.Ev.dropLoc c s.h,s.nx⟩ v k cs:=⟨a.1.dropLoc hw,a.2.1,a.2.2⟩
theorem GrowS.sc {ty es:Nat} {st0 s:St} {v:AV} {k:Nat} {cs:List AV} (a:GrowS ty es st0 s v k cs):v.sc=true:=by
 obtain⟨⟨m,hsl⟩,b6,b7⟩:=a
 rcases hsl with ⟨k1,k2,k3⟩ | ⟨k1,k2,k3⟩ | ⟨ty',k1,k2,k3⟩ <;> rw[k1] <;> rfl
theorem GrowS.lt {ty es:Nat} {st0 s:St} {v:AV} {k:Nat} {cs:List AV} (a:GrowS ty es st0 s v k cs) (hw:s.Wf):∀n∈v.nms,n<s.nx:=by
 obtain⟨⟨m,hsl⟩,b6,b7⟩:=a
 rcases hsl with ⟨k1,k2,k3⟩ | ⟨k1,k2,k3⟩ | ⟨ty',k1,k2,k3⟩
 ·rw[k1];intro n hn;cases hn
 ·rw[k1];intro n hn;simp only[AV.nms,List.mem_singleton]at hn;subst hn;exact hw.lt _ _ k2
 ·rw[k1];intro n hn;simp only[AV.nms,List.mem_singleton]at hn;subst hn;exact hw.lt _ _ k2
theorem GrowS.rds {ty es:Nat} {st0 s:St} {v:AV} {k:Nat} {cs:List AV} (a:GrowS ty es st0 s v k cs):RdS es s.h v k cs:=by
 obtain⟨⟨m,hsl⟩,b6,b7⟩:=a
 have hlen:=hsl.len
 refine⟨hlen,?_⟩
 rcases hsl with ⟨k1,k2,k3⟩ | ⟨k1,k2,k3⟩ | ⟨ty',k1,k2,k3⟩
 ·exact .inl ⟨k1,k3⟩
 ·refine .inr ⟨m,0,_,k1,trivial,⟨_,k2,rfl⟩,?_⟩
  simp only[rdCells,k2]
  rw[if_pos (by omega),List.drop_zero,List.take_of_length_le (by omega)]
 ·exact absurd k1 (b7 _ _ _ _)
theorem GrowS.push {ty es b:Nat} {st0 s1:St} (hF:st0.nx≤s1.nx) (hw:s1.Wf) {v:AV} {k:Nat} {cs new:List AV} {j:Nat} (hj:0<j) (g:GrowS ty es st0 s1 v k cs) (hl:k<1000000000) (hb:b<10000) (hn:new.length=es) (hsc:new.all AV.sc=true):
  CRes (aappend ty es b ⟨(s1.nx,.cells ty false new)::s1.h,s1.nx+j⟩ v (.slice s1.nx 0 1 (.known 1))) fun v' s=>GrowS ty es st0 s v' (k+1) (cs++new)∧Frm v.nms s1 s∧∀n∈v'.nms,n∈v.nms∨s1.nx≤n:=by
 obtain⟨a1,a2,a3⟩:=g
 have xa:=Ext.newA hw (.cells ty false new) hj
 have hap:=Sl.append (x:= .slice s1.nx 0 1 (.known 1)) (j:=1) (new:=new) (b:=b) (Frm.refl xa.wf v.nms) (fun n h=> .inl h) (a1.ext xa hw)
  (.inr ⟨_,_,_,rfl,rd_all (ty:=ty) (l:=false) (by simp[hget_cons]) (by omega)⟩) hsc (by
    have:(k+1)*b≤1000000000*10000:=Nat.mul_le_mul (by omega) (by omega)
    omega) (by omega) (.inl (by omega))
 refine(hap.also (fun _ _ h=>aappend_nk h a3)).mono ?_
 rintro v2 s2 ⟨⟨k1,k2,k3,_⟩,hnk2⟩
 refine⟨⟨k1,fun n hn=> ?_,hnk2⟩,(xa.fr v.nms).trans k2 (fun n h=> .inl h),fun n hn=> ?_⟩
 ·rcases k3 n hn with h | h
  ·exact a2 n h
  ·simp at h;exact .inr (by omega)
 ·rcases k3 n hn with h | h
  ·exact .inl h
  ·simp at h;exact .inr (by omega)
def ceS (s:List UInt8):Ce:=⟨1,s,[],[],[],0,0⟩
def obS (k:Nat) (s:List UInt8):Ob:=⟨6,false,0,[],k,0,s.length⟩
def strH (l:List (List UInt8)):List Ce:=l.map ceS
def strO:Nat→List (List UInt8)→List Ob
 | _,[]=>[]
 | k,s::r=>obS k s::strO (k+1) r
theorem strO_snoc:∀(k:Nat) (l:List (List UInt8)) (s:List UInt8),strO k (l++[s])=strO k l++[obS (k+l.length) s]
 | k,[],s=>rfl
 | k,t::r,s=>by
   simp only[List.cons_append,strO,strO_snoc (k+1) r s,List.length_cons]
   rw[show k+1+r.length=k+(r.length+1)by omega]
theorem strO_len:∀(k:Nat) (l:List (List UInt8)),(strO k l).length=l.length
 | _,[]=>rfl
 | k,_::r=>by simp[strO,strO_len (k+1) r]
def ceA (s:List UInt8):List AV:=[.int .i64 1,.str s,.nilslice,.nilslice,.nilslice,.int .i64 0,.int .i64 0]
def strsA (l:List (List UInt8)):List AV:=l.map AV.str
theorem ceA_ok (h:Heap) (s:List UInt8):CeR h (ceS s) (ceA s):=⟨.nilslice,.nilslice,.nilslice,rfl,.nil h,.nil h,.nil h⟩
theorem ceAs_ok (h:Heap):∀l:List (List UInt8),CesR h (strH l) (l.flatMap ceA)
 | []=>rfl
 | s::r=>⟨ceA s,r.flatMap ceA,rfl,ceA_ok h s,ceAs_ok h r⟩
theorem strH_S {l:List (List UInt8)} (h:l.length<1000000) (h2:∀s∈l,s.length<1000000):HpS (strH l):=by
 refine⟨by simpa [strH] using h,fun c hc=> ?_⟩
 simp only[strH,List.mem_map]at hc
 obtain⟨s,hs,rfl⟩:=hc
 exact h2 s hs
theorem strH_L (l:List (List UInt8)):HpL (strH l):=fun c hc=>by
 simp only[strH,List.mem_map]at hc
 obtain⟨s,hs,rfl⟩:=hc
 simp[ceS]
theorem strings_l0 {st0:St} (hw0:st0.Wf) {v0:AV} {l:List (List UInt8)} (hd0:Rd st0.h v0 1 l.length (strsA l)) (hl:l.length<1000000):∀(m i:Nat) (v u:AV) (e:Env) (st1:St),i+m=l.length→Ext st0 st1→GrowS 486 7 st0 st1 v i ((l.take i).flatMap ceA)→GrowS 451 7 st0 st1 u i (obsA (strO 0 (l.take i)))→(∀n∈v.nms,n∉u.nms)→eget e 4=v→eget e 5=u→eget e 8=v0→eget e 9= .int .i64 l.length→eget e 10= .int .i64 (i:Int)→
  Res (run T (.loop B.chaselaw14_strings_l0) e st1) fun x e' s'=>x= .exit 0∧Ext st0 s'∧GrowS 486 7 st0 s' (eget e' 4) l.length (l.flatMap ceA)∧GrowS 451 7 st0 s' (eget e' 5) l.length (obsA (strO 0 l)):=by
 intro m
 induction m with
 | zero=>
   intro i v u e st1 hi hx hg hg' hvu g4 g5 g8 g9 g10
   have hil:i=l.length:=by omega
   subst hil
   rw[List.take_length]at hg hg'
   rw[run_loop]
   simp[B.chaselaw14_strings_l0,go_sem,g4,g5,g8,g9,g10,hx,hg,hg']
 | succ m ih=>
   intro i v u e st1 hi hx hg hg' hvu g4 g5 g8 g9 g10
   have hil:i<l.length:=by omega
   obtain⟨c,hc⟩:∃c,l[i]? =some c:=⟨_,List.getElem?_eq_getElem hil⟩
   have h1:(i:Int)<l.length:=by omega
   have ek:IntKind.i64.wrap ((i:Int)+1)=((i+1:Nat):Int):=wrap64' (by omega) (by omega)
   have hsn:l.take (i+1)=l.take i++[c]:=by rw[List.take_add_one,hc];rfl
   have hd:=hd0.ext hx hw0
   rcases hd with ⟨h3,h4,h5⟩ | ⟨n,off,cp,rfl,h2⟩
   ·omega
   have hrd:=rdCells_get h2 (i:=i) (by omega)
   have hce:(strsA l)[i]? =some (.str c):=by simp[strsA,hc]
   rw[hce]at hrd
   rw[rdCell_bind]at hrd
   obtain⟨ob,hob⟩:=rdCells_some h2
   rw[hob]at hrd
   simp only[Option.bind_some]at hrd
   rw[run_loop]
   simp (disch:=omega) [B.chaselaw14_strings_l0,go_sem,g4,g5,g8,g9,g10,h1,hob,hrd,B.zCe,hg.sc]
   refine(hg.push (b:=112) hx.nx hx.wf (j:=1) (by omega) (by omega) (by omega) rfl rfl).mono ?_
   rintro v2 s2 ⟨o2,f2,q2⟩
   have y2:=hx.frm f2 hg.ge
   have hg2:=hg'.frm f2 hx.wf (fun n hn hm=>hvu n hm hn)
   simp (disch:=omega) [go_sem,g4,g5,g8,g9,g10,B.zOb,hg'.sc,o2.sc]
   refine(hg2.push (b:=64) y2.nx y2.wf (j:=1) (by omega) (by omega) (by omega) rfl rfl).mono ?_
   rintro u2 s3 ⟨o3,f3,q3⟩
   have y3:=y2.frm f3 hg2.ge
   have f2n:=f2.nx
   have d2:∀n∈v2.nms,n∉u.nms:=fun n hn hm=>by
    rcases q2 n hn with h | h
    ·exact hvu n h hm
    ·have:=hg'.lt hx.wf n hm;omega
   have o4:=o2.frm f3 y2.wf d2
   simp (disch:=omega) [go_sem,g4,g5,g8,g9,g10,o2.sc,o3.sc]
   refine ih (i+1) v2 u2 _ s3 (by omega) y3 ?_ ?_ ?_ (by simp[go_sem]) (by simp[go_sem]) (by simp[go_sem]) (by simp[go_sem]) (by simp[go_sem,ek])
   ·rw[hsn];simpa [ceA] using o4
   ·rw[hsn,strO_snoc,obsA_append,List.length_take,Nat.min_eq_left (by omega),Nat.zero_add];simpa [obsA,Ob.A,obS] using o3
   ·intro n hn hm
    rcases q3 n hm with h | h
    ·exact d2 n hn h
    ·have:=o2.lt y2.wf n hn;omega
theorem strings_res (H:B.H_chaselaw14_strings T) (hwf:st.Wf) {v0:AV} {l:List (List UInt8)} (hd:Rd st.h v0 1 l.length (strsA l)) (hl:l.length<1000000):
  CRes (call T (.fn 306 [] []) [v0] st) fun w s=>Ext st s∧∃v u,w= .tuple [v,u]∧HpR s.h v (strH l)∧RdO s.h u (strO 0 l):=by
 refine call_res H.e H.f rfl ?_
 have key:∀e:Env,eget e 4= .nilslice→eget e 5= .nilslice→eget e 8=v0→eget e 9= .int .i64 l.length→eget e 10= .int .i64 0→Res (run T (.loop B.chaselaw14_strings_l0) e st) fun x e' s'=>x= .exit 0∧Ext st s'∧GrowS 486 7 st s' (eget e' 4) l.length (l.flatMap ceA)∧GrowS 451 7 st s' (eget e' 5) l.length (obsA (strO 0 l)):=
  fun e g4 g5 g8 g9 g10=>strings_l0 hwf hd hl l.length 0 .nilslice .nilslice e st (by omega) (.refl hwf) (by simpa using GrowS.nil 486 7 st st) (by simpa [strO,obsA] using GrowS.nil 451 7 st st) (fun n h=>by cases h) g4 g5 g8 g9 g10
 rcases id hd with ⟨h3,h4,h5⟩ | ⟨n,off,cp,h3,h2⟩
 all_goals
  rw[h3]at key⊢
  simp[B.chaselaw14_strings,go_sem]
  refine(key _ (by simp[go_sem]) (by simp[go_sem]) (by simp[go_sem]) (by simp[go_sem, *]) (by simp[go_sem])).mono ?_
  rintro x e' s' ⟨rfl,hx,hg,hg'⟩
  simp[go_sem,hg.sc,hg'.sc]
  refine⟨hx.dropGe (Nat.le_refl _),_,_,⟨rfl,rfl⟩,?_,?_⟩
  ·have r:=(hg.dropLoc (c:=st.nx) hx.wf).rds
   exact⟨_,ceAs_ok _ l,by simpa [strH] using r⟩
  ·have r:=(hg'.dropLoc (c:=st.nx) hx.wf).rds
   unfold RdO
   rw[strO_len]
   exact r
end Go.Ev
