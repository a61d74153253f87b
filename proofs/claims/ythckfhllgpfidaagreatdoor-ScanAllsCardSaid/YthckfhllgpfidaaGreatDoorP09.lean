/- Binary tokens. -/
import Derived.Test.YthckfhllgpfidaaGreatDoorP08
set_option linter.unusedSimpArgs false
set_option linter.unusedVariables false
set_option linter.unusedSectionVars false
namespace Go.Ev
open Go
variable {T : Tab} {st : St}
def Zcg (k:Int) (long:Nat) (rest:List UInt8):T3:=if rest.length<long then Qt 37 else((k,Zey (rest.take long),[]),1+long,0)
def Dc (k:Int) (long:Nat) (rest:List UInt8):T3:=
 if rest.length<long then Qt 37
 else if(rest.drop long).length<(Dm (rest.take long)).toNat then Qt 37
 else Xd k ((rest.drop long).take (Dm (rest.take long)).toNat) (1+long+(Dm (rest.take long)).toNat)
def Zay (c:UInt8) (rest:List UInt8):T3:=
 if c=128 then Zcg 1 4 rest else if c=129 then Zcg 1 1 rest else if c=130 then Zcg 1 2 rest else if c=131 then Zcg 2 4 rest
 else if c=132 then Dc 6 1 rest else if c=133 then Dc 6 2 rest else if c=134 then Dc 4 1 rest else if c=135 then Dc 3 1 rest else if c=136 then Dc 5 1 rest
 else Qt 37
structure At (st:St) (p:Nat) (s:List UInt8) (i:Nat):Prop where
 g:∃l,Zh st.h p=some (Ia l s i)
 hs:s.length<1000000000
 hi:i<s.length
theorem At.ext {p i:Nat} {s:List UInt8} {s1:St} (a:At st p s i) (x:Ext st s1) (hwf:st.Wf):At s1 p s i:=by
 obtain⟨⟨l,g⟩,h1,h2⟩:=a
 exact⟨⟨l,x.get hwf g⟩,h1,h2⟩
theorem At.r0 {p i:Nat} {s:List UInt8} (a:At st p s i):Zo st.h p 0=some (.str s):=by obtain⟨⟨l,g⟩,_,_⟩:=a;exact Zz7 g
theorem At.r1 {p i:Nat} {s:List UInt8} (a:At st p s i):Zo st.h p 1=some (.int .i64 (i:Int)):=by obtain⟨⟨l,g⟩,_,_⟩:=a;exact Zti g
theorem At.hd {p i:Nat} {s:List UInt8} (a:At st p s i):∃c,s[i]? =some c∧s.drop i=c::s.drop (i+1):=Z9 a.hi
theorem Zp2 (H:B.Rn T) (hwf:st.Wf) {p i:Nat} {s:List UInt8} (a:At st p s i) {k:Int} {long:Nat} (hl:1≤long∧long≤4):
  Qa T st (.fn 200 [] []) [.ptr p 0,.int .i64 k,.int .i64 (long:Int)] (tk3 (Zcg k long (s.drop (i+1)))):=by
 refine Zs H.e H.f rfl ?_
 have hx:=Ext.new hwf (.cells 134 true [.int .i64 0,.int .i64 0,.str []])
 have hg:=Xe st.h st.nx
 have a1:=a.ext hx hwf
 have q0:=a1.r0
 have q1:=a1.r1
 have hs:=a.hs
 have hi:=a.hi
 obtain⟨I,hI⟩:∃I:Int,I=(i:Int):=⟨_,rfl⟩
 obtain⟨w,hw⟩:∃w:Int,w=(i:Int)+1:=⟨_,rfl⟩
 have ek:IntKind.i64.wrap (I+1)=w:=by rw[hI,Zf (by omega) (by omega),hw]
 rw[←hI]at q1
 have hsub:Q6 s (some (.int .i64 w)) none=some (.str (s.drop (i+1))):=by rw[Qp (by omega) (by omega),hw];congr 2
 have hrl:(s.drop (i+1)).length<1000000000:=by rw[List.length_drop];omega
 clear a1 hI hw
 generalize s.drop (i+1)=R at*
 have bad:∀{s1:St},Ext st s1→Zh s1.h st.nx=some (.cells 134 true [.int .i64 0,.int .i64 0,.str []])→∀k n t,Ext st ⟨Qi s1.h st.nx (.cells 134 true [.int .i64 k,.int .i64 n,.str t]),s1.nx⟩:=fun e1 g1 k n t=>e1.Qh g1 (Nat.le_refl _)
 simp[B.Yq,go_sem,NO.run,RO.run,q0,q1,ek,hsub]
 have y:=hx.trans (Ext.aside hx.wf 13)
 simp only[Nat.add_assoc,Nat.reduceAdd]at y⊢
 unfold Zcg
 by_cases h:R.length<long
 ·have h':(R.length:Int)<(long:Int):=by omega
  simp[go_sem,h,h']
  refine(Ds H.Q1 y.wf).use fun s2 x2=> ?_
  have g2:=x2.get y.wf hg
  simp[go_sem,Qj g2,WO.run,Zg,Zm,Zr,RO.run,Qd (Zc g2),tk3,Qt]
  exact bad (y.trans x2) g2 _ _ _
 ·have h':¬(R.length:Int)<(long:Int):=by omega
  have ht:Q6 R none (some (.int .i64 (long:Int)))=some (.str (R.take long)):=by rw[E7 (by omega) (by omega)];simp
  obtain⟨z,hz⟩:∃z:Nat,z=1+long:=⟨_,rfl⟩
  have hwl:IntKind.i64.wrap (1+(long:Int))=(z:Int):=by rw[Zf (by omega) (by omega)];omega
  rw[←hz]
  simp[go_sem,h,h',ht]
  have hne:R.take long≠[]:=by
   intro e
   have h3:(R.take long).length=long:=by simp;omega
   rw[e]at h3
   simp at h3
   omega
  refine(Zly H.Nq y.wf (s:=R.take long) (by simp;omega) hne).use fun s2 x2=> ?_
  have g2:=x2.get y.wf hg
  simp[go_sem,Qj g2,WO.run,Zg,Zm,Zr,RO.run,Qd (Zc g2),tk3,Qt,hwl]
  exact bad (y.trans x2) g2 _ _ _
theorem Znn {R:List UInt8} {long:Nat} (hR:long≤R.length) (hl:long≤4) {p k m:AV}:∀(j i:Nat) (e:Env),i+j=long→Zb e 0=p→Zb e 1=k→Zb e 2= .int .i64 (long:Int)→Zb e 6=m→Zb e 9= .str R→Zb e 10= .int .i64 (Nl 0 (R.take i))→Zb e 33= .int .i64 (long:Int)→Zb e 34= .int .i64 i→
  Res (run T (.loop B.Uq) e st) fun x e' s'=>x= .exit 0∧s'=st∧Zb e' 0=p∧Zb e' 1=k∧Zb e' 2= .int .i64 (long:Int)∧Zb e' 6=m∧Zb e' 9= .str R∧Zb e' 10= .int .i64 (Dm (R.take long)):=by
 intro j
 induction j with
 | zero=>
   intro i e hi g0 g1 g2 g6 g9 g10 g33 g34
   have hil:i=long:=by omega
   subst hil
   rw[Zn]
   simp[B.Uq,go_sem,g0,g1,g2,g6,g9,g10,g33,g34,Dm]
 | succ j ih=>
   intro i e hi g0 g1 g2 g6 g9 g10 g33 g34
   have hil':(i:Int)<long:=by omega
   obtain⟨c,hc,hd⟩:=Z9 (s:=R) (i:=i) (by omega)
   obtain⟨b0,b1⟩:=Aw (R.take i) 0 (by omega) (by omega) (by simp;omega)
   have hsn:=Zal (R.take i) 0 c
   rw[←I2 hc]at hsn
   have ih2:=fun e'=>ih (i+1) e' (by omega)
   rw[hsn]at ih2
   generalize Nl 0 (R.take i)=N at*
   have s1:=Zxm b0 b1
   have s2:=Zqd b0 b1 c.toNat_lt
   have ek:IntKind.i64.wrap ((i:Int)+1)=((i+1:Nat):Int):=Zf (by omega) (by omega)
   have wc:IntKind.i64.wrap (c.toNat:Int)=c.toNat:=Zf (by have:=c.toNat_lt;omega) (by have:=c.toNat_lt;omega)
   clear ih hi hd hR
   rw[Zn]
   simp[B.Uq,go_sem,g0,g1,g2,g6,g9,g10,g33,g34,hil',hc,wc,s1,s2]
   exact ih2 _ (by simp[go_sem,g0]) (by simp[go_sem,g1]) (by simp[go_sem,g2]) (by simp[go_sem,g6]) (by simp[go_sem,g9]) (by simp[go_sem,s2]) (by simp[go_sem,g33]) (by simp[go_sem,ek])
theorem Zk1 (H:B.Mr T) (hwf:st.Wf) {p i:Nat} {s:List UInt8} (a:At st p s i) {k:Int} {long:Nat} (hl:1≤long∧long≤2):
  Qa T st (.fn 201 [] []) [.ptr p 0,.int .i64 k,.int .i64 (long:Int)] (tk3 (Dc k long (s.drop (i+1)))):=by
 refine Zs H.e H.f rfl ?_
 have hx:=Ext.new hwf (.cells 134 true [.int .i64 0,.int .i64 0,.str []])
 have hg:=Xe st.h st.nx
 have a1:=a.ext hx hwf
 have q0:=a1.r0
 have q1:=a1.r1
 have hs:=a.hs
 have hi:=a.hi
 obtain⟨I,hI⟩:∃I:Int,I=(i:Int):=⟨_,rfl⟩
 obtain⟨w,hw⟩:∃w:Int,w=(i:Int)+1:=⟨_,rfl⟩
 have ek:IntKind.i64.wrap (I+1)=w:=by rw[hI,Zf (by omega) (by omega),hw]
 rw[←hI]at q1
 have hsub:Q6 s (some (.int .i64 w)) none=some (.str (s.drop (i+1))):=by rw[Qp (by omega) (by omega),hw];congr 2
 have hrl:(s.drop (i+1)).length<1000000000:=by rw[List.length_drop];omega
 clear a1 hI hw
 generalize s.drop (i+1)=R at*
 have bad:∀{s1:St},Ext st s1→Zh s1.h st.nx=some (.cells 134 true [.int .i64 0,.int .i64 0,.str []])→∀k n t,Ext st ⟨Qi s1.h st.nx (.cells 134 true [.int .i64 k,.int .i64 n,.str t]),s1.nx⟩:=fun e1 g1 k n t=>e1.Qh g1 (Nat.le_refl _)
 simp[B.Yz,go_sem,NO.run,RO.run,q0,q1,ek,hsub]
 have y:=hx.trans (Ext.aside hx.wf 13)
 simp only[Nat.add_assoc,Nat.reduceAdd]at y⊢
 obtain⟨O,hO⟩:∃O,O=Dc k long R:=⟨_,rfl⟩
 rw[←hO]
 unfold Dc at hO
 by_cases h:R.length<long
 ·have h':(R.length:Int)<(long:Int):=by omega
  rw[if_pos h]at hO
  subst hO
  simp[go_sem,h,h']
  refine(Ds H.Q1 y.wf).use fun s2 x2=> ?_
  have g2:=x2.get y.wf hg
  simp[go_sem,Qj g2,WO.run,Zg,Zm,Zr,RO.run,Qd (Zc g2),tk3,Qt]
  exact bad (y.trans x2) g2 _ _ _
 ·have h':¬(R.length:Int)<(long:Int):=by omega
  rw[if_neg h]at hO
  have hnb:=Aw (R.take long) 0 (by omega) (by omega) (by simp;omega)
  have hn0:=Zez (R.take long) 0 (by omega)
  simp[go_sem,h,h']
  refine(Znn (R:=R) (long:=long) (by omega) (by omega) (p:= .ptr p 0) (k:= .int .i64 k) (m:= .ptr st.nx 0) long 0 _ (by simp) (by simp[go_sem]) (by simp[go_sem]) (by simp[go_sem]) (by simp[go_sem]) (by simp[go_sem]) (by simp[go_sem,Nl]) (by simp[go_sem]) (by simp[go_sem])).mono ?_
  rintro x e s1 ⟨rfl,rfl,g0,g1,g2,g6,g9,g10⟩
  change _≤Dm _∧Dm _≤_ at hnb
  change 0≤Dm _ at hn0
  obtain⟨n,hn⟩:=Int.eq_ofNat_of_zero_le hn0
  rw[hn]at g10 hO
  rw[hn]at hnb
  simp only[Int.toNat_natCast]at hO
  have hf:Q6 R (some (.int .i64 (long:Int))) none=some (.str (R.drop long)):=by rw[Qp (by omega) (by omega)];simp
  have hdl:(R.drop long).length=R.length - long:=List.length_drop
  generalize R.drop long=R2 at*
  simp[go_sem,g0,g1,g2,g6,g9,g10,hf]
  by_cases h2:R2.length<n
  ·have h2':(R2.length:Int)<(n:Int):=by omega
   rw[if_pos h2]at hO
   subst hO
   simp[go_sem,h2,h2',g0,g1,g2,g6,g9,g10]
   refine(Ds H.Q1 y.wf).use fun s2 x2=> ?_
   have k2:=x2.get y.wf hg
   simp[go_sem,Qj k2,WO.run,Zg,Zm,Zr,RO.run,Qd (Zc k2),tk3,Qt,g6]
   exact bad (y.trans x2) k2 _ _ _
  ·have h2':¬(R2.length:Int)<(n:Int):=by omega
   have ht:Q6 R2 none (some (.int .i64 (n:Int)))=some (.str (R2.take n)):=by rw[E7 (by omega) (by omega)];simp
   have w1:IntKind.i64.wrap (1+(long:Int))=((1+long:Nat):Int):=by rw[Zf (by omega) (by omega)];omega
   obtain⟨z,hz⟩:∃z:Nat,z=1+long+n:=⟨_,rfl⟩
   have w2:IntKind.i64.wrap (1+(long:Int)+(n:Int))=(z:Int):=by rw[Zf (by omega) (by omega)];omega
   rw[if_neg h2,←hz]at hO
   subst hO
   simp[go_sem,h2,h2',g0,g1,g2,g6,g9,g10,ht,w1,w2]
   refine(G0 H.Yd y.wf (k:=k) (x:=R2.take n) (n:=z) (by simp;omega)).use fun s2 x2=> ?_
   have k2:=x2.get y.wf hg
   generalize Xd k (R2.take n) z=t
   simp[go_sem,Qj k2,WO.run,Zg,Zm,Zr,RO.run,Qd (Zc k2),tk3,g6]
   exact bad (y.trans x2) k2 _ _ _
def shift (i:Nat) (t:T3):T3:=if t.2.2=0 then(t.1,i+t.2.1,0)else t
theorem Znl (H:B.M9 T) (hwf:st.Wf) {p i:Nat} {s:List UInt8} (a:At st p s i) {c:UInt8} (hc:s[i]? =some c) (h128:128≤c.toNat):
  Qa T st (.fn 186 [] []) [.ptr p 0] (tk3 (Zay c (s.drop (i+1)))):=by
 refine Zs H.e H.f rfl ?_
 have hx:=Ext.new hwf (.cells 134 true [.int .i64 0,.int .i64 0,.str []])
 have hg:=Xe st.h st.nx
 have a1:=a.ext hx hwf
 have q0:=a1.r0
 have q1:=a1.r1
 have y:=hx.trans (Ext.aside hx.wf 11)
 have a2:=a.ext y hwf
 simp only[Nat.add_assoc,Nat.reduceAdd]at y a2
 have bad:∀{s1:St},Ext st s1→Zh s1.h st.nx=some (.cells 134 true [.int .i64 0,.int .i64 0,.str []])→∀k n t,Ext st ⟨Qi s1.h st.nx (.cells 134 true [.int .i64 k,.int .i64 n,.str t]),s1.nx⟩:=fun e1 g1 k n t=>e1.Qh g1 (Nat.le_refl _)
 obtain⟨O,hO⟩:∃O,O=Zay c (s.drop (i+1)):=⟨_,rfl⟩
 rw[←hO]
 obtain⟨C,hC⟩:∃C:Int,C=(c.toNat:Int):=⟨_,rfl⟩
 have e0:c.toNat=C.toNat:=by omega
 have hcs:∀n:UInt8,c=n↔C=n.toNat:=fun n=>by rw[hC,←UInt8.toNat_inj];omega
 simp[B.Vf,go_sem,NO.run,RO.run,q0,q1,hc]
 rw[←hC]
 have tf:=fun k long h=>Zp2 H.Yq y.wf a2 (k:=k) (long:=long) h
 have tc:=fun k long h=>Zk1 H.Yz y.wf a2 (k:=k) (long:=long) h
 unfold Zay at hO
 simp only[hcs]at hO
 have fin:∀s2,Ext ⟨(st.nx,Z7.cells 134 true [.int .i64 0,.int .i64 0,.str []])::st.h,st.nx+12⟩ s2→∀O:T3,Z5 s2.h st.nx 0 [.int .i64 O.1.1,.int .i64 O.1.2.1,.str O.1.2.2]=some (Qi s2.h st.nx (.cells 134 true [.int .i64 O.1.1,.int .i64 O.1.2.1,.str O.1.2.2]))∧
   Z1 (Qi s2.h st.nx (.cells 134 true [.int .i64 O.1.1,.int .i64 O.1.2.1,.str O.1.2.2])) st.nx 0 3=some [.int .i64 O.1.1,.int .i64 O.1.2.1,.str O.1.2.2]∧Ext st ⟨Qi s2.h st.nx (.cells 134 true [.int .i64 O.1.1,.int .i64 O.1.2.1,.str O.1.2.2]),s2.nx⟩:=by
  intro s2 x2 O
  have g2:=x2.get y.wf hg
  exact⟨Qj g2,Qd (Zc g2),bad (y.trans x2) g2 _ _ _⟩
 by_cases h0:C=128
 ·rw[if_pos (by simpa using h0)]at hO
  subst h0
  simp[go_sem]
  refine(tf 1 4 (by omega)).use fun s2 x2=> ?_
  rw[←hO]
  obtain⟨k1,k2,k3⟩:=fin s2 x2 O
  simp[go_sem,k1,WO.run,Zg,Zm,Zr,RO.run,k2,tk3,k3]
 rw[if_neg (by simpa using h0)]at hO
 by_cases h1:C=129
 ·rw[if_pos (by simpa using h1)]at hO
  subst h1
  simp[go_sem]
  refine(tf 1 1 (by omega)).use fun s2 x2=> ?_
  rw[←hO]
  obtain⟨k1,k2,k3⟩:=fin s2 x2 O
  simp[go_sem,k1,WO.run,Zg,Zm,Zr,RO.run,k2,tk3,k3]
 rw[if_neg (by simpa using h1)]at hO
 by_cases h2:C=130
 ·rw[if_pos (by simpa using h2)]at hO
  subst h2
  simp[go_sem]
  refine(tf 1 2 (by omega)).use fun s2 x2=> ?_
  rw[←hO]
  obtain⟨k1,k2,k3⟩:=fin s2 x2 O
  simp[go_sem,k1,WO.run,Zg,Zm,Zr,RO.run,k2,tk3,k3]
 rw[if_neg (by simpa using h2)]at hO
 by_cases h3:C=131
 ·rw[if_pos (by simpa using h3)]at hO
  subst h3
  simp[go_sem]
  refine(tf 2 4 (by omega)).use fun s2 x2=> ?_
  rw[←hO]
  obtain⟨k1,k2,k3⟩:=fin s2 x2 O
  simp[go_sem,k1,WO.run,Zg,Zm,Zr,RO.run,k2,tk3,k3]
 rw[if_neg (by simpa using h3)]at hO
 by_cases h4:C=132
 ·rw[if_pos (by simpa using h4)]at hO
  subst h4
  simp[go_sem]
  refine(tc 6 1 (by omega)).use fun s2 x2=> ?_
  rw[←hO]
  obtain⟨k1,k2,k3⟩:=fin s2 x2 O
  simp[go_sem,k1,WO.run,Zg,Zm,Zr,RO.run,k2,tk3,k3]
 rw[if_neg (by simpa using h4)]at hO
 by_cases h5:C=133
 ·rw[if_pos (by simpa using h5)]at hO
  subst h5
  simp[go_sem]
  refine(tc 6 2 (by omega)).use fun s2 x2=> ?_
  rw[←hO]
  obtain⟨k1,k2,k3⟩:=fin s2 x2 O
  simp[go_sem,k1,WO.run,Zg,Zm,Zr,RO.run,k2,tk3,k3]
 rw[if_neg (by simpa using h5)]at hO
 by_cases h6:C=134
 ·rw[if_pos (by simpa using h6)]at hO
  subst h6
  simp[go_sem]
  refine(tc 4 1 (by omega)).use fun s2 x2=> ?_
  rw[←hO]
  obtain⟨k1,k2,k3⟩:=fin s2 x2 O
  simp[go_sem,k1,WO.run,Zg,Zm,Zr,RO.run,k2,tk3,k3]
 rw[if_neg (by simpa using h6)]at hO
 by_cases h7:C=135
 ·rw[if_pos (by simpa using h7)]at hO
  subst h7
  simp[go_sem]
  refine(tc 3 1 (by omega)).use fun s2 x2=> ?_
  rw[←hO]
  obtain⟨k1,k2,k3⟩:=fin s2 x2 O
  simp[go_sem,k1,WO.run,Zg,Zm,Zr,RO.run,k2,tk3,k3]
 rw[if_neg (by simpa using h7)]at hO
 by_cases h8:C=136
 ·rw[if_pos (by simpa using h8)]at hO
  subst h8
  simp[go_sem]
  refine(tc 5 1 (by omega)).use fun s2 x2=> ?_
  rw[←hO]
  obtain⟨k1,k2,k3⟩:=fin s2 x2 O
  simp[go_sem,k1,WO.run,Zg,Zm,Zr,RO.run,k2,tk3,k3]
 rw[if_neg (by simpa using h8)]at hO
 simp[go_sem,h0,h1,h2,h3,h4,h5,h6,h7,h8]
 refine(Ds H.Yq.Q1 y.wf).use fun s2 x2=> ?_
 rw[←hO]
 obtain⟨k1,k2,k3⟩:=fin s2 x2 O
 simp[go_sem,k1,WO.run,Zg,Zm,Zr,RO.run,k2,tk3,k3]
end Go.Ev

/- The reference's binary tokens. -/
namespace Go.Ev
open Go
variable {T : Tab} {st : St}
def F8:List AV:=[.int .i64 1,.int .i64 1,.int .i64 1,.int .i64 2,.int .i64 6,.int .i64 6,.int .i64 4,.int .i64 3,.int .i64 5]
def Ov:List AV:=[.int .i64 4,.int .i64 1,.int .i64 2,.int .i64 4,.int .i64 1,.int .i64 2,.int .i64 1,.int .i64 1,.int .i64 1]
theorem Zu5 {c:UInt8} {k:Nat} (hk:c.toNat=128+k) (h8:k≤8) (rest:List UInt8):∃(K:Int) (L:Nat),F8[k]? =some (.int .i64 K)∧Ov[k]? =some (.int .i64 (L:Int))∧
  ((k<4∧(L=1∨L=2∨L=4)∧Zay c rest=Zcg K L rest)∨(¬k<4∧(L=1∨L=2)∧Zay c rest=Dc K L rest)):=by
 have hc:c=UInt8.ofNat (128+k):=by rw[←hk];simp
 subst hc
 have:k=0∨k=1∨k=2∨k=3∨k=4∨k=5∨k=6∨k=7∨k=8:=by omega
 rcases this with rfl | rfl | rfl | rfl | rfl | rfl | rfl | rfl | rfl
 ·exact⟨1,4,rfl,rfl,.inl ⟨by omega,by omega,rfl⟩⟩
 ·exact⟨1,1,rfl,rfl,.inl ⟨by omega,by omega,rfl⟩⟩
 ·exact⟨1,2,rfl,rfl,.inl ⟨by omega,by omega,rfl⟩⟩
 ·exact⟨2,4,rfl,rfl,.inl ⟨by omega,by omega,rfl⟩⟩
 ·exact⟨6,1,rfl,rfl,.inr ⟨by omega,by omega,rfl⟩⟩
 ·exact⟨6,2,rfl,rfl,.inr ⟨by omega,by omega,rfl⟩⟩
 ·exact⟨4,1,rfl,rfl,.inr ⟨by omega,by omega,rfl⟩⟩
 ·exact⟨3,1,rfl,rfl,.inr ⟨by omega,by omega,rfl⟩⟩
 ·exact⟨5,1,rfl,rfl,.inr ⟨by omega,by omega,rfl⟩⟩
theorem Zxc {c:UInt8} {k:Nat} (hk:c.toNat=128+k) (h8:8<k) (rest:List UInt8):Zay c rest=Qt 37:=by
 have h:∀n:UInt8,n.toNat≤136→c≠n:=fun n hn e=>by subst e;omega
 unfold Zay
 rw[if_neg (h _ (by decide)),if_neg (h _ (by decide)),if_neg (h _ (by decide)),if_neg (h _ (by decide)),if_neg (h _ (by decide)),if_neg (h _ (by decide)),if_neg (h _ (by decide)),if_neg (h _ (by decide)),if_neg (h _ (by decide))]
theorem Wu (i:Nat) (e:Int) (h:e≠0):shift i (Qt e)=Qt e:=by simp[shift,Qt,h]
theorem Md (i:Nat) (k:Int) (x:List UInt8) (n:Nat):shift i (Xd k x n)=Xd k x (i+n):=by
 unfold Xd
 split
 ·rfl
 ·split
  ·rfl
  ·rfl
theorem Zh6 (H:B.Ri T) (hwf:st.Wf) {i:Nat} {s:List UInt8} (hs:s.length<1000000000) (hi:i<s.length) {c:UInt8} (hc:s[i]? =some c) (h128:128≤c.toNat):
  Qa T st (.fn 191 [] []) [.str s,.int .i64 (i:Int)] (tk3 (shift i (Zay c (s.drop (i+1))))):=by
 refine Zs H.e H.f rfl ?_
 have hx0:=Ext.new hwf (.cells 134 true [.int .i64 0,.int .i64 0,.str []])
 have hx1:=hx0.trans (Ext.new hx0.wf (.cells 297 true F8))
 have hx:=hx1.trans (Ext.new hx1.wf (.cells 297 true Ov))
 have hg:Zh ((st.nx+2,Z7.cells 297 true Ov)::(st.nx+1,Z7.cells 297 true F8)::(st.nx,Z7.cells 134 true [.int .i64 0,.int .i64 0,.str []])::st.h) st.nx=some (.cells 134 true [.int .i64 0,.int .i64 0,.str []]):=by simp[Ze]
 have hgK:Zh ((st.nx+2,Z7.cells 297 true Ov)::(st.nx+1,Z7.cells 297 true F8)::(st.nx,Z7.cells 134 true [.int .i64 0,.int .i64 0,.str []])::st.h) (st.nx+1)=some (.cells 297 true F8):=by simp[Ze]
 have hgL:Zh ((st.nx+2,Z7.cells 297 true Ov)::(st.nx+1,Z7.cells 297 true F8)::(st.nx,Z7.cells 134 true [.int .i64 0,.int .i64 0,.str []])::st.h) (st.nx+2)=some (.cells 297 true Ov):=by simp[Ze]
 simp only[Nat.add_assoc,Nat.reduceAdd]at hx
 obtain⟨k,hk⟩:∃k:Nat,c.toNat=128+k:=⟨c.toNat - 128,by omega⟩
 have cl:=c.toNat_lt
 have wc:IntKind.i64.wrap (c.toNat:Int)=c.toNat:=Zf (by omega) (by omega)
 have wk:IntKind.i64.wrap ((c.toNat:Int) - 128)=(k:Int):=by rw[Zf (by omega) (by omega)];omega
 obtain⟨O,hO⟩:∃O,O=shift i (Zay c (s.drop (i+1))):=⟨_,rfl⟩
 rw[←hO]
 refine Fs (fun x e' s'=>x= .norm∧s'=⟨(st.nx,Z7.cells 134 true [.int .i64 0,.int .i64 0,.str []])::st.h,st.nx+1⟩∧Zb e' 0= .str s∧Zb e' 1= .int .i64 (i:Int)∧Zb e' 4= .ptr st.nx 0) (by simp) ?_ ?_
 ·simp[go_sem,NO.run]
 rintro _ e1 s1 ⟨rfl,rfl,g0,g1,g4⟩
 rw[Qw]
 refine Fs (fun x e' s'=>x= .norm∧s'=⟨(st.nx+1,Z7.cells 297 true F8)::(st.nx,Z7.cells 134 true [.int .i64 0,.int .i64 0,.str []])::st.h,st.nx+2⟩∧Zb e' 0= .str s∧Zb e' 1= .int .i64 (i:Int)∧Zb e' 4= .ptr st.nx 0∧Zb e' 7= .ptr (st.nx+1) 0) (by simp) ?_ ?_
 ·simp[go_sem,NO.run,WO.run,g0,g1,g4,Z5,Ze,Jv,K0,F8,List.replicate,Nat.add_assoc]
 rintro _ e2 s2 ⟨rfl,rfl,g0,g1,g4,g7⟩
 rw[Qw]
 refine Fs (fun x e' s'=>x= .norm∧s'=⟨(st.nx+2,Z7.cells 297 true Ov)::(st.nx+1,Z7.cells 297 true F8)::(st.nx,Z7.cells 134 true [.int .i64 0,.int .i64 0,.str []])::st.h,st.nx+3⟩∧Zb e' 0= .str s∧Zb e' 1= .int .i64 (i:Int)∧Zb e' 4= .ptr st.nx 0∧Zb e' 7= .ptr (st.nx+1) 0∧Zb e' 8= .ptr (st.nx+2) 0) (by simp) ?_ ?_
 ·simp[go_sem,NO.run,WO.run,g0,g1,g4,g7,Z5,Ze,Jv,K0,Ov,List.replicate,Nat.add_assoc]
 rintro _ e3 s3 ⟨rfl,hst,g0,g1,g4,g7,g8⟩
 rw[Qw]
 rw[←hst]at hx
 have hsh:s3.h=(st.nx+2,Z7.cells 297 true Ov)::(st.nx+1,Z7.cells 297 true F8)::(st.nx,Z7.cells 134 true [.int .i64 0,.int .i64 0,.str []])::st.h:=by rw[hst]
 rw[←hsh]at hg hgK hgL
 clear hst hsh hx0 hx1
 have bad:∀{s1:St},Ext s3 s1→∀k n t,Ext st ⟨Qi s1.h st.nx (.cells 134 true [.int .i64 k,.int .i64 n,.str t]),s1.nx⟩:=fun e1 k n t=>(hx.trans e1).Qh (e1.get hx.wf hg) (Nat.le_refl _)
 obtain⟨mK,hmK⟩:∃m,m=st.nx+1:=⟨_,rfl⟩
 obtain⟨mL,hmL⟩:∃m,m=st.nx+2:=⟨_,rfl⟩
 rw[←hmK]at hgK g7
 rw[←hmL]at hgL g8
 have hres:B.Vw.results=[.cell 4 (some 3),.t 5,.t 6]:=rfl
 have ei:IntKind.i64.wrap ((i:Int)+1)=((i+1:Nat):Int):=Zf (by omega) (by omega)
 by_cases h8:8<k
 ·have h8':(8:Int)<(k:Int):=by omega
  rw[Zxc hk h8,Wu _ _ (by decide)]at hO
  subst hO
  simp[go_sem,g0,g1,g4,g7,g8,hc,wc,wk,h8',Qj hg,WO.run,Zg,Zm,Zr,RO.run,Qd (Zc hg),tk3,Qt,hres]
  exact bad (.refl hx.wf) _ _ _
 ·have h8':¬(8:Int)<(k:Int):=by omega
  obtain⟨K,L,hK,hL,hcase⟩:=Zu5 hk (by omega) (s.drop (i+1))
  have rK:Zo s3.h mK k=some (.int .i64 K):=by simp only[Zo,hgK];exact hK
  have rL:Zo s3.h mL k=some (.int .i64 (L:Int)):=by simp only[Zo,hgL];exact hL
  have hLb:L≤4:=by rcases hcase with ⟨_,h,_⟩ | ⟨_,h,_⟩ <;> omega
  obtain⟨W,hW⟩:∃W:Int,W=(s.length:Int) - i - 1:=⟨_,rfl⟩
  have w1:IntKind.i64.wrap ((s.length:Int) - i)=(s.length:Int) - i:=Zf (by omega) (by omega)
  have w2:IntKind.i64.wrap ((s.length:Int) - i - 1)=W:=by rw[Zf (by omega) (by omega),hW]
  have hk9:(k:Int)<9:=by omega
  have hRl:(s.drop (i+1)).length=s.length - (i+1):=List.length_drop
  have hk9':k<9:=by omega
  by_cases hl:(s.drop (i+1)).length<L
  ·have hl':W<(L:Int):=by omega
   have hb:Zay c (s.drop (i+1))=Qt 37:=by
    rcases hcase with ⟨_,_,h⟩ | ⟨_,_,h⟩ <;> rw[h]
    ·rw[Zcg,if_pos hl]
    ·rw[Dc,if_pos hl]
   rw[hb,Wu _ _ (by decide)]at hO
   subst hO
   simp[go_sem,g0,g1,g4,g7,g8,hc,wc,wk,h8',w1,w2,hk9,hk9',rL,hl',Qj hg,WO.run,Zg,Zm,Zr,RO.run,Qd (Zc hg),tk3,Qt,hres]
   exact bad (.refl hx.wf) _ _ _
  ·have hl':¬W<(L:Int):=by omega
   obtain⟨w3,hw3⟩:∃w:Int,w=(i:Int)+1:=⟨_,rfl⟩
   obtain⟨w4,hw4⟩:∃w:Nat,w=i+1+L:=⟨_,rfl⟩
   have ei':IntKind.i64.wrap ((i:Int)+1)=w3:=by rw[ei];omega
   have ej:IntKind.i64.wrap (w3+(L:Int))=(w4:Int):=by rw[Zf (by omega) (by omega)];omega
   have hsub:Q6 s (some (.int .i64 w3)) (some (.int .i64 (w4:Int)))=some (.str ((s.drop (i+1)).take L)):=by
    rw[J6 (by omega) (by omega) (by omega)]
    congr 3
    ·omega
    ·rw[hw3];congr 1
   have hdd:(s.drop (i+1)).drop L=s.drop w4:=by rw[List.drop_drop,hw4]
   have hw4l:w4≤s.length:=by omega
   clear ei
   simp[go_sem,g0,g1,g4,g7,g8,hc,wc,wk,h8',w1,w2,hk9,hk9',rL,hl',RO.run,ei',ej,hsub]
   generalize s.drop (i+1)=R at*
   rcases hcase with ⟨hk4,hLc,hb⟩ | ⟨hk4,hLc,hb⟩
   ·have hk4':(k:Int)<4:=by omega
    rw[hb,Zcg,if_neg hl]at hO
    have hO2:O=((K,Zey (R.take L),[]),w4,0):=by rw[hO,shift,if_pos rfl,hw4];simp;omega
    subst hO2
    simp[go_sem,g0,g1,g4,g7,g8,hk4',hk4,rK,hk9,hk9',RO.run]
    have ya:=hx.trans (Ext.aside hx.wf 11)
    refine(Zo8 H.Vx ya.wf (s:=R.take L) (by simp;omega)).use fun s5 x5=> ?_
    have x5':=(Ext.aside hx.wf 11).trans x5
    have gK5:=x5'.get hx.wf hgK
    have rK5:Zo s5.h mK k=some (.int .i64 K):=by simp only[Zo,gK5];exact hK
    have g5:=x5'.get hx.wf hg
    simp[go_sem,RO.run,reI,g7,hk9,hk9',rK5]
    refine⟨rfl,?_⟩
    simp[go_sem,RO.run,Qj g5,WO.run,Zg,Zm,Zr,g4,Qd (Zc g5),tk3,Qt,hres]
    exact bad x5' _ _ _
   ·have hk4':¬(k:Int)<4:=by omega
    rw[hb,Dc,if_neg hl,hdd]at hO
    have hnb:=Aw (R.take L) 0 (by omega) (by omega) (by simp;omega)
    have hn0:=Zez (R.take L) 0 (by omega)
    simp[go_sem,g0,g1,g4,g7,g8,hk4',hk4,rK,hk9,hk9',RO.run]
    refine(Zag H.Jy hx.wf (s:=R.take L) (by simp;omega)).use fun s5 x5=> ?_
    change _≤Dm _∧Dm _≤_ at hnb
    change 0≤Dm _ at hn0
    obtain⟨n,hn⟩:=Int.eq_ofNat_of_zero_le hn0
    rw[hn]at hO hnb⊢
    simp only[Int.toNat_natCast]at hO
    have w5:IntKind.i64.wrap ((s.length:Int) - (w4:Int))=((s.length - w4:Nat):Int):=by rw[Zf (by omega) (by omega)];omega
    have hdl:(s.drop w4).length=s.length - w4:=List.length_drop
    have g5:=x5.get hx.wf hg
    obtain⟨w6,hw6⟩:∃w:Int,w=((s.length - w4:Nat):Int):=⟨_,rfl⟩
    rw[←hw6]at w5
    by_cases h2:(s.drop w4).length<n
    ·have h2':w6<(n:Int):=by omega
     rw[if_pos h2,Wu _ _ (by decide)]at hO
     subst hO
     simp[go_sem,g0,g4,w5,h2',Qj g5,WO.run,Zg,Zm,Zr,RO.run,Qd (Zc g5),tk3,Qt,hres]
     exact bad x5 _ _ _
    ·have h2':¬w6<(n:Int):=by omega
     rw[if_neg h2,Md]at hO
     obtain⟨z,hz⟩:∃z:Nat,z=w4+n:=⟨_,rfl⟩
     have hz2:i+(1+L+n)=z:=by omega
     rw[hz2]at hO
     have w7:IntKind.i64.wrap ((w4:Int)+(n:Int))=(z:Int):=by rw[Zf (by omega) (by omega)];omega
     have hsub2:Q6 s (some (.int .i64 (w4:Int))) (some (.int .i64 (z:Int)))=some (.str ((s.drop w4).take n)):=by
      rw[J6 (by omega) (by omega) (by omega)]
      congr 3
      ·simp;omega
     have gK5:=x5.get hx.wf hgK
     have rK5:Zo s5.h mK k=some (.int .i64 K):=by simp only[Zo,gK5];exact hK
     simp[go_sem,g0,g4,g7,w5,h2',hk9,hk9',rK5,RO.run,w7,hsub2]
     have ya:=x5.trans (Ext.aside x5.wf 19)
     refine(Js H.Qn ya.wf (k:=K) (x:=(s.drop w4).take n) (n:=z) (by simp;omega)).use fun s6 x6=> ?_
     rw[←hO]
     have y6:=ya.trans x6
     have g6:=y6.get hx.wf hg
     simp[go_sem,g4,Qj g6,WO.run,Zg,Zm,Zr,RO.run,Qd (Zc g6),tk3,hres]
     exact bad y6 _ _ _
end Go.Ev

/- The reference's Unhex. -/
namespace Go.Ev
open Go
variable {T : Tab} {st : St}
def P8:List UInt8→Nat→List Nat→Option (List Nat×Nat)
 | [],_,_=>none
 | c::r,i,l=>if c=62 then some (l,i+1)else if K3 c=true then P8 r (i+1) l else if Ox c<0 then none else P8 r (i+1) (l++[(Ox c).toNat])
def prs:List Nat→List UInt8
 | []=>[]
 | [a]=>[UInt8.ofNat (16*a)]
 | a::b::r=>UInt8.ofNat (16*a+b)::prs r
def Zea (s:List UInt8):List UInt8×Nat×Int:=
 if 65536<s.length then([],0,3)else match P8 s 0 []with
  | none=>([],0,5)
  | some (l,n)=>(prs l,n,0)
theorem Ze2:∀(l:List Nat) (a b:Nat),l.length % 2=0→prs (l++[a,b])=prs l++[UInt8.ofNat (16*a+b)]
 | [],a,b,_=>rfl
 | [x],a,b,h=>by simp at h
 | x::y::r,a,b,h=>by
   have:=Ze2 r a b (by simp at h;omega)
   simp[prs,this]
theorem Zoy:∀(l:List Nat),l.length % 2=1→prs (l++[0])=prs l
 | [],h=>by simp at h
 | [x],_=>rfl
 | x::y::r,h=>by
   have:=Zoy r (by simp at h;omega)
   simp[prs,this]
theorem Zox:∀l:List Nat,(prs l).length≤l.length
 | []=>Nat.le_refl _
 | [x]=>Nat.le_refl _
 | x::y::r=>by have:=Zox r;simp[prs];omega
def Av (l:List Nat):List AV:=l.map fun n=> .int .i64 ((n:Nat):Int)
theorem Zmz (l:List Nat):(Av l).length=l.length:=by simp[Av]
theorem Zmy {l:List Nat} {i:Nat} {n:Nat} (h:l[i]? =some n):(Av l)[i]? =some (.int .i64 (n:Int)):=by simp[Av,h]
def D2 (st0 s:St) (v:AV) (l:List Nat):Prop:=Sl s v 3 1 l.length (Av l)∧Xg [] st0 v∧NK v
theorem D2.nil (st0 s:St):D2 st0 s .Zk []:=⟨.nil _ _ _,.nil _ _,fun _ _ _ _ h=>by cases h⟩
theorem D2.ge {st0 s:St} {v:AV} {l:List Nat} (a:D2 st0 s v l):∀n∈v.nms,st0.nx≤n:=fun n hn=>by
 rcases a.2.1 n hn with h | h
 ·cases h
 ·exact h
theorem D2.ext {st0 s s':St} {v:AV} {l:List Nat} (a:D2 st0 s v l) (f:Ext s s') (hw:s.Wf):D2 st0 s' v l:=⟨a.1.ext f hw,a.2.1,a.2.2⟩
theorem D2.push {st0 s1:St} (hF:st0.nx≤s1.nx) (hw:s1.Wf) {v:AV} {l:List Nat} {c:Nat} {k:Nat} (hk:0<k) (a:D2 st0 s1 v l) (hl:l.length<1000000000000):
  Jg (Ym 3 1 8 ⟨(s1.nx,.cells 3 false [.int .i64 (c:Int)])::s1.h,s1.nx+k⟩ v (.slice s1.nx 0 1 (.known 1))) fun v' s=>D2 st0 s v' (l++[c])∧Frm v.nms s1 s:=by
 obtain⟨a1,a2,a3⟩:=a
 have xa:=Ext.Zzw hw (.cells 3 false [.int .i64 (c:Int)]) hk
 have hap:=Sl.append (x:= .slice s1.nx 0 1 (.known 1)) (j:=1) (new:=[.int .i64 (c:Int)]) (b:=8) (Frm.refl xa.wf v.nms) (fun n h=> .inl h) (a1.ext xa hw)
  (.inr ⟨_,_,_,rfl,Mw (ty:=3) (l:=false) (by simp[Ze]) rfl⟩) (by simp[AV.sc]) (by omega) (by omega) (.inl (by omega))
 refine(hap.Zsl (fun _ _ h=>Gw h a3)).mono ?_
 rintro v2 s2 ⟨⟨k1,k2,k3,_⟩,hnk2⟩
 have hsn:Av (l++[c])=Av l++[.int .i64 (c:Int)]:=by simp[Av]
 refine⟨⟨by rw[hsn];simpa using k1,fun n hn=> ?_,hnk2⟩,(xa.fr v.nms).trans k2 (fun n h=> .inl h)⟩
 rcases k3 n hn with h | h
 ·exact a2 n h
 ·simp at h;exact .inr (by omega)
theorem Grow.b2s {st0 s:St} {v:AV} {l:List UInt8} (a:Grow st0 s v l) {e:AO→AV} {x:AO} (hx:e x=v):RO.run e s.h (.b2s x)=some (.str l):=by
 obtain⟨⟨m,hsl⟩,b6,b7⟩:=a
 have hu8:=Kb l
 rcases hsl with ⟨k1,k2,k3⟩ | ⟨k1,k2,k3⟩ | ⟨ty',k1,k2,k3⟩
 ·have:l=[]:=List.length_eq_zero_iff.1 k3
  subst this
  simp[RO.run,hx,k1]
 ·have hrd:Z1 s.h m 0 l.length=some (u8s l):=by
   simp[Z1,k2,Re]
   exact List.take_of_length_le (by rw[Re];exact Nat.le_refl _)
  simp[RO.run,hx,k1,hrd,hu8]
 ·exact absurd k1 (b7 _ _ _ _)
theorem Grow.form {st0 s:St} {v:AV} {l:List UInt8} (a:Grow st0 s v l):(v= .Zk∧l=[])∨∃n,v= .slice n 0 l.length .full∧Z1 s.h n 0 l.length=some (u8s l)∧st0.nx≤n:=by
 have hge:=a.ge
 obtain⟨⟨m,hsl⟩,b6,b7⟩:=a
 rcases hsl with ⟨k1,k2,k3⟩ | ⟨k1,k2,k3⟩ | ⟨ty',k1,k2,k3⟩
 ·exact .inl ⟨k1,List.length_eq_zero_iff.1 k3⟩
 ·refine .inr ⟨m,k1,?_,hge m (by rw[k1];simp[AV.nms])⟩
  simp[Z1,k2,Re]
  exact List.take_of_length_le (by rw[Re];exact Nat.le_refl _)
 ·exact absurd k1 (b7 _ _ _ _)
theorem Zyr {sA:St} (hA:sA.Wf) {D:List Nat} {m:Nat} {cp:Cap} (hrd:Z1 sA.h m 0 (D.length*1)=some (Av D)) (hD:D.length % 2=0) (hDl:D.length≤65536) (hb:∀d∈D,d<16) {n6:AV}:
  ∀(f i:Nat) (e:Env) (s1:St) (v:AV),i+2*f=D.length→i % 2=0→Ext sA s1→Grow sA s1 v (prs (D.take i))→Zb e 5= .slice m 0 D.length cp→Zb e 6=n6→Zb e 7=v→Zb e 8= .int .i64 (i:Int)→
  Res (run T (.loop B.Ko) e s1) fun x e' s'=>x= .exit 2∧Ext sA s'∧Zb e' 6=n6∧Grow sA s' (Zb e' 7) (prs D):=by
 intro f
 induction f with
 | zero=>
   intro i e s1 v hi h2 hx hg g5 g6 g7 g8
   have:i=D.length:=by omega
   subst this
   rw[List.take_length]at hg
   rw[Zn]
   simp[B.Ko,go_sem,g5,g6,g7,g8,hx,hg]
 | succ f ih=>
   intro i e s1 v hi h2 hx hg g5 g6 g7 g8
   have h1:(i:Int)<D.length:=by omega
   obtain⟨a,ha⟩:∃a,D[i]? =some a:=⟨_,List.getElem?_eq_getElem (show i<D.length by omega)⟩
   obtain⟨b,hbb⟩:∃b,D[i+1]? =some b:=⟨_,List.getElem?_eq_getElem (show i+1<D.length by omega)⟩
   have a16:=hb a (List.mem_of_getElem? ha)
   have b16:=hb b (List.mem_of_getElem? hbb)
   have hrd1:Z1 s1.h m 0 (D.length*1)=some (Av D):=by
    rw[←hrd]
    unfold Z1
    obtain⟨o,ho⟩:=Rc hrd
    rw[hx.get hA ho,ho]
   have ra:Zo s1.h m i=some (.int .i64 (a:Int)):=by
    have:=G9 hrd1 (i:=i) (by omega)
    rw[Nat.zero_add,Zmy ha]at this
    exact this
   have rb:Zo s1.h m (i+1)=some (.int .i64 (b:Int)):=by
    have:=G9 hrd1 (i:=i+1) (by omega)
    rw[Nat.zero_add,Zmy hbb]at this
    exact this
   have hsn:prs (D.take (i+2))=prs (D.take i)++[UInt8.ofNat (16*a+b)]:=by
    rw[List.take_add_one,List.take_add_one,ha,hbb]
    simp only[Option.toList,List.append_assoc]
    exact Ze2 _ a b (by simp;omega)
   obtain⟨j,hj⟩:∃j:Int,j=(i:Int)+1:=⟨_,rfl⟩
   obtain⟨c,hce⟩:∃c,c=UInt8.ofNat (16*a+b):=⟨_,rfl⟩
   obtain⟨z,hz⟩:∃z:Int,z=(16*a:Nat):=⟨_,rfl⟩
   obtain⟨I,hI⟩:∃I:Int,I=(i:Int):=⟨_,rfl⟩
   obtain⟨L,hL⟩:∃L:Int,L=(D.length:Int):=⟨_,rfl⟩
   have hc:(c.toNat:Int)=((16*a+b:Nat):Int):=by
    have:c.toNat=16*a+b:=by rw[hce,UInt8.toNat_ofNat',Nat.mod_eq_of_lt (by omega)]
    omega
   have ek:IntKind.i64.wrap (I+1)=j:=by rw[Zf (by omega) (by omega)];omega
   have ek2:IntKind.i64.wrap ((i:Int)+2)=((i+2:Nat):Int):=Zf (by omega) (by omega)
   have wm:IntKind.i64.wrap (16*(a:Int))=z:=by rw[Zf (by omega) (by omega)];omega
   have wa:IntKind.i64.wrap (z+(b:Int))=(c.toNat:Int):=by rw[Zf (by omega) (by omega)];omega
   have wc:IntKind.u8.wrap (c.toNat:Int)=(c.toNat:Int):=wrap_u8 (by omega) (by omega)
   have hpl:=Zox (D.take i)
   rw[List.length_take]at hpl
   have ih2:=fun e' s' v'=>ih (i+2) e' s' v' (by omega) (by omega)
   rw[hsn,←hce]at ih2
   have h1:I<L:=by omega
   have h0:(0:Int)≤I:=by omega
   have h0t:I.toNat=i:=by omega
   have hi1:j<L:=by omega
   have hi1n:(0:Int)≤j:=by omega
   have hit:j.toNat=i+1:=by omega
   have hpush:=hg.push hx.nx hx.wf (c:=c) (k:=16) (by omega) (by omega)
   have g8':Zb e 8= .int .i64 I:=by rw[g8,hI]
   have hLn:((D.length:Nat):Int)=L:=hL.symm
   rw[Zn]
   simp[B.Ko,go_sem,g5,g6,g7,g8',RO.run,NO.run,h1,ra,rb,ek,h0,h0t,hi1,hi1n,hit,wm,wa,wc,Y3,hLn]
   refine hpush.mono ?_
   rintro v2 s2 ⟨o2,f2⟩
   simp[go_sem,g5,g6,g7,g8]
   exact ih2 _ _ v2 (hx.Yo f2 hg.ge) o2 (by simp[go_sem,g5]) (by simp[go_sem,g6]) (by simp[go_sem]) (by simp[go_sem,hI,ek2])
end Go.Ev

/- The reference's Unhex told. -/
namespace Go.Ev
open Go
variable {T : Tab} {st : St}
def Zsv:Option (List Nat×Nat)→List UInt8×Nat×Int
 | none=>([],0,5)
 | some (l,n)=>(prs l,n,0)
theorem D2.form {st0 s:St} {v:AV} {l:List Nat} (a:D2 st0 s v l):(v= .Zk∧l=[])∨∃n,v= .slice n 0 l.length .full∧Z1 s.h n 0 (l.length*1)=some (Av l):=by
 obtain⟨⟨m,hsl⟩,b6,b7⟩:=a
 rcases hsl with ⟨k1,k2,k3⟩ | ⟨k1,k2,k3⟩ | ⟨ty',k1,k2,k3⟩
 ·exact .inl ⟨k1,List.length_eq_zero_iff.1 k3⟩
 ·refine .inr ⟨m,k1,?_⟩
  simp[Z1,k2,Zmz]
  exact List.take_of_length_le (by rw[Zmz];exact Nat.le_refl _)
 ·exact absurd k1 (b7 _ _ _ _)
theorem Zwr {sA st0:St} (hA:Ext st0 sA) {v:AV} {D:List Nat} (hg:D2 st0 sA v D) (hD:D.length % 2=0) (hDl:D.length≤65536) (hb:∀d∈D,d<16) {i:Nat} (hi:i≤65536) {e:Env} (g5:Zb e 5=v) (g6:Zb e 6= .int .i64 (i:Int)) (g7:Zb e 7= .Zk) (g8:Zb e 8= .int .i64 0):
  Res (run T (.loop B.Ko) e sA) fun x e' s'=>x= .exit 2∧Ext st0 s'∧Zb e' 6= .int .i64 (i:Int)∧Grow sA s' (Zb e' 7) (prs D):=by
 rcases hg.form with ⟨rfl,rfl⟩ | ⟨n,rfl,hrd⟩
 ·rw[Zn]
  simp[B.Ko,go_sem,g5,g6,g7,g8,hA]
  exact Grow.nil _ _
 ·refine(Zyr hA.wf hrd hD hDl hb (n6:= .int .i64 (i:Int)) (D.length / 2) 0 e sA .Zk (by omega) (by omega) (.refl hA.wf) (Grow.nil _ _) g5 g6 g7 g8).mono ?_
  rintro x e' s' ⟨h1,h2,h3,h4⟩
  exact⟨h1,hA.trans h2,h3,h4⟩
theorem Zys (H:B.Lm T) {s:List UInt8} (hs:s.length≤65536) {st0:St}:∀(m i:Nat) (l:List Nat) (v:AV) (e:Env) (st1:St),i+m=s.length→l.length≤i→(∀d∈l,d<16)→Ext st0 st1→D2 st0 st1 v l→Zb e 0= .str s→Zb e 5=v→Zb e 6= .int .i64 (i:Int)→
  Res (run T (.loop B.Kp) e st1) fun x e' s'=>Ext st0 s'∧((x= .exit 0∧P8 (s.drop i) i l=none)∨(x= .ret∧Zb e' 2= .str (Zsv (P8 (s.drop i) i l)).1∧Zb e' 3= .int .i64 ((Zsv (P8 (s.drop i) i l)).2.1:Nat)∧Zb e' 4= .int .i64 (Zsv (P8 (s.drop i) i l)).2.2)):=by
 intro m
 induction m with
 | zero=>
   intro i l v e st1 hi hl hb hx hg g0 g5 g6
   have hil:i=s.length:=by omega
   subst hil
   rw[Zn]
   simp[B.Kp,go_sem,g0,g5,g6,hx,P8]
 | succ m ih=>
   intro i l v e st1 hi hl hb hx hg g0 g5 g6
   have hil:i<s.length:=by omega
   obtain⟨c,hc,hd⟩:=Z9 hil
   obtain⟨R,hR⟩:∃R,R=P8 (s.drop i) i l:=⟨_,rfl⟩
   rw[←hR]
   rw[hd,P8]at hR
   have h1:(i:Int)<s.length:=by omega
   have ek:IntKind.i64.wrap ((i:Int)+1)=((i+1:Nat):Int):=Zf (by omega) (by omega)
   have c62:((c.toNat:Int)=62)↔c=62:=by rw[←UInt8.toNat_inj];simp;omega
   rw[Zn]
   by_cases hc62:c=62
   ·rw[if_pos hc62]at hR
    subst hR
    have hlo:=hg.1.rd.lenOf (ev:=fun _=>v) (x:= .t 0) rfl
    have fin:∀(D:List Nat) (sA:St) (v2:AV) (e1:Env),Ext st0 sA→D2 st0 sA v2 D→D.length % 2=0→D.length≤65536→(∀d∈D,d<16)→prs D=prs l→Zb e1 5=v2→Zb e1 6= .int .i64 (i:Int)→Zb e1 7= .Zk→Zb e1 8= .int .i64 0→
      Res (run T (.loop B.Ko) e1 sA) (fun x e' s'=>x= .exit 2∧Ext st0 s'∧Zb e' 6= .int .i64 (i:Int)∧∃sB,Grow sB s' (Zb e' 7) (prs l)):=by
     intro D sA v2 e1 hA hgA h2 hDl hbD hp k5 k6 k7 k8
     refine(Zwr hA hgA h2 hDl hbD (i:=i) (by omega) k5 k6 k7 k8).mono ?_
     rintro x e' s' ⟨y1,y2,y3,y4⟩
     rw[hp]at y4
     exact⟨y1,y2,y3,_,y4⟩
    obtain⟨w,hw⟩:∃w:Nat,w=i+1:=⟨_,rfl⟩
    have ek':IntKind.i64.wrap ((i:Int)+1)=(w:Int):=by rw[ek,hw]
    rw[←hw]
    have hnx:=hx
    clear ih hil hi
    rcases hg.form with ⟨hv,hl0⟩ | ⟨n,hv,hrd⟩
    ·subst hl0
     rw[hv]at g5
     simp[B.Kp,go_sem,g0,g5,g6,h1,hc,c62,hc62,Zsv]
     refine(fin [] st1 .Zk _ hx (by rw[←hv];exact hg) (by simp) (by simp) (by simp) rfl (by simp[go_sem,g5]) (by simp[go_sem,g6]) (by simp[go_sem]) (by simp[go_sem])).mono ?_
     rintro x e' s' ⟨rfl,hx',k6,sB,hG⟩
     rcases hG.form with ⟨k7,k8⟩ | ⟨n2,k7,k8,_⟩
     ·simp[go_sem,k6,k7,k8,ek',hx',RO.run,prs]
     ·simp[go_sem,k6,k7,k8,ek',hx',RO.run,Kb]
    ·obtain⟨r,hr⟩:∃r:Int,r=(l.length:Int).tmod 2:=⟨_,rfl⟩
     have hr2:r=((l.length % 2:Nat):Int):=by rw[hr,Int.tmod_eq_emod_of_nonneg (by omega)];omega
     rw[hv]at g5
     by_cases hodd:l.length % 2=1
     ·have hr1:r=1:=by omega
      rw[hr1]at hr
      simp[B.Kp,go_sem,g0,g5,g6,h1,hc,c62,hc62,Zsv,←hr,NO.run,Y3]
      have hp:=hg.push hnx.nx hx.wf (c:=0) (k:=1) (by omega) (by omega)
      rw[hv]at hp
      refine hp.mono ?_
      rintro v2 s2 ⟨o2,f2⟩
      have hge:=hg.ge
      rw[hv]at hge
      have x2:=hx.Yo f2 hge
      simp[go_sem,g0,g5,g6]
      refine(fin (l++[0]) s2 v2 _ x2 o2 (by simp;omega) (by simp;omega) ?_ (Zoy l hodd) (by simp[go_sem,g5]) (by simp[go_sem,g6]) (by simp[go_sem]) (by simp[go_sem])).mono ?_
      ·intro d hd
       rcases List.mem_append.1 hd with h | h
       ·exact hb d h
       ·simp at h;omega
      rintro x e' s' ⟨rfl,hx',k6,sB,hG⟩
      rcases hG.form with ⟨k7,k8⟩ | ⟨n2,k7,k8,_⟩
      ·simp[go_sem,k6,k7,k8,ek',hx',RO.run]
      ·simp[go_sem,k6,k7,k8,ek',hx',RO.run,Kb]
     ·have hr1:r=0:=by omega
      rw[hr1]at hr
      simp[B.Kp,go_sem,g0,g5,g6,h1,hc,c62,hc62,Zsv,←hr]
      refine(fin l st1 v _ hx hg (by omega) (by omega) hb rfl (by simp[go_sem,g5,hv]) (by simp[go_sem,g6]) (by simp[go_sem]) (by simp[go_sem])).mono ?_
      rintro x e' s' ⟨rfl,hx',k6,sB,hG⟩
      rcases hG.form with ⟨k7,k8⟩ | ⟨n2,k7,k8,_⟩
      ·simp[go_sem,k6,k7,k8,ek',hx',RO.run]
      ·simp[go_sem,k6,k7,k8,ek',hx',RO.run,Kb]
   ·rw[if_neg hc62]at hR
    simp[B.Kp,go_sem,g0,g5,g6,h1,hc,c62,hc62]
    refine(Hy H.Qs hx.wf c).use fun s1 x1'=> ?_
    have x1:=hx.trans x1'
    have hg1:=hg.ext x1' hx.wf
    cases hbl:K3 c with
    | true=>
      rw[if_pos hbl]at hR
      subst hR
      simp[go_sem,g0,g5,g6]
      exact ih (i+1) l v _ _ (by omega) (by omega) hb x1 hg1 (by simp[go_sem,g0]) (by simp[go_sem,g5]) (by simp[go_sem,g6,ek])
    | false=>
      rw[if_neg (by simp[hbl])]at hR
      simp[go_sem,g0,g5,g6,hc]
      refine(A5 H.Vc x1.wf c).use fun s2 x2'=> ?_
      have x2:=x1.trans x2'
      have hg2:=hg1.ext x2' x1.wf
      have hnv:=Zuk c
      by_cases hn:Ox c<0
      ·rw[if_pos hn]at hR
       subst hR
       simp[go_sem,hn,x2,Zsv]
      ·rw[if_neg hn]at hR
       subst hR
       obtain⟨n,hn2⟩:=Int.eq_ofNat_of_zero_le (show 0≤Ox c by omega)
       have hv:=fun st1 hw=>A5 (st:=st1) H.Vc hw c
       rw[hn2]at hn hnv hv⊢
       simp only[Int.toNat_natCast]
       simp[go_sem,g0,g5,g6,hc,NO.run,Y3,show¬(n:Int)<0 by omega]
       refine(hv _ x2.wf).use fun s3 x3'=> ?_
       have x3:=x2.trans x3'
       have hg3:=hg2.ext x3' x2.wf
       simp[go_sem,NO.run,Y3]
       refine(hg3.push x3.nx x3.wf (c:=n) (k:=1) (by omega) (by omega)).mono ?_
       rintro v4 s4 ⟨o4,f4⟩
       have x4:=x3.Yo f4 hg3.ge
       simp[go_sem,g0,g5,g6]
       refine ih (i+1) (l++[n]) v4 _ _ (by omega) (by simp;omega) ?_ x4 o4 (by simp[go_sem,g0]) (by simp[go_sem]) (by simp[go_sem,g6,ek])
       intro d hd
       rcases List.mem_append.1 hd with h | h
       ·exact hb d h
       ·simp at h;omega
theorem Zkj (H:B.Lm T) (hwf:st.Wf) {s:List UInt8} (hs:s.length<1000000000000):Qa T st (.fn 189 [] []) [.str s] (Rx (Zea s)):=by
 refine Zs H.e H.f rfl ?_
 unfold Zea
 by_cases h:65536<s.length
 ·have h':(65536:Int)<s.length:=by omega
  simp[B.Vb,go_sem,h,h',Rx,Ext.refl hwf]
 ·have h':¬(65536:Int)<s.length:=by omega
  simp[B.Vb,go_sem,h,h']
  refine(Zys H (s:=s) (by omega) (st0:=st) s.length 0 [] .Zk _ st (by simp) (by simp) (by simp) (.refl hwf) (D2.nil _ _) (by simp[go_sem]) (by simp[go_sem]) (by simp[go_sem])).mono ?_
  rintro x e' s' ⟨hx,⟨rfl,hn⟩ | ⟨rfl,k2,k3,k4⟩⟩
  ·rw[List.drop_zero]at hn
   simp[go_sem,hn,Rx,hx]
  ·rw[List.drop_zero]at k2 k3 k4
   simp[go_sem,k2,k3,k4,hx]
   cases hh:P8 s 0 []with
   | none=>rfl
   | some p=>rfl
end Go.Ev

/- Decoders that take octets one by one: what they write to, and the octets that are not blank. -/
namespace Go.Ev
open Go
variable {T : Tab} {st : St}
def Bx (st0 s:St) (q:Nat) (l:List UInt8):Prop:=st0.nx≤q∧∃v,Zh s.h q=some (.cells 35 false [v])∧Grow st0 s v l∧q∉v.nms
def Safe (o:Z7):Prop:=(∀ty l,o≠.cells ty false (u8s l))∧∀ty es cs,o≠.buf ty es cs
theorem Bx.Yo {st0 s s':St} {q:Nat} {l:List UInt8} {S:List Nat} (b:Bx st0 s q l) (f:Frm S s s') (hw:s.Wf) (hS:∀m∈S,m≠q∧∀o,Zh s.h m=some o→Safe o):Bx st0 s' q l:=by
 obtain⟨k1,v,k2,k3,k4⟩:=b
 refine⟨k1,v,f.get hw k2 (fun h=>(hS q h).1 rfl),k3.Yo f hw ?_,k4⟩
 intro n hn hm
 obtain⟨_,h⟩:=hS n hm
 rcases k3.nms hn with ⟨ty,h2⟩ | h2
 ·exact(h _ h2).1 ty l rfl
 ·exact(h _ h2).2 _ _ _ rfl
theorem Bx.ext {st0 s s':St} {q:Nat} {l:List UInt8} (b:Bx st0 s q l) (f:Ext s s') (hw:s.Wf):Bx st0 s' q l:=b.Yo (f.fr []) hw (by simp)
theorem Bx.Zp {st0 s:St} {q c:Nat} {l:List UInt8} (b:Bx st0 s q l) (hw:s.Wf):Bx st0 ⟨Go.Ev.Zp c s.h,s.nx⟩ q l:=by
 obtain⟨k1,v,k2,k3,k4⟩:=b
 exact⟨k1,v,Qv hw k2 rfl,k3.Zp hw,k4⟩
theorem Zvd {st0:St} (hx:Ext st0 st) {q:Nat} {l m:List UInt8} {x:AV} (hm:Rd st.h x 1 m.length (u8s m)) (b:Bx st0 st q l) (hl:l.length+m.length<35184372088831):
  ∃v,Zo st.h q 0=some v∧Jg (Ym 5 1 1 st v x) fun v' s=>Kx v'=[v']∧∃h',Z5 s.h q 0 [v']=some h'∧(Ext st0 ⟨h',s.nx⟩∧Bx st0 ⟨h',s.nx⟩ q (l++m))∧∀n o,n≠q→Zh st.h n=some o→Safe o→Zh h' n=some o:=by
 obtain⟨k1,v,k2,k3,k4⟩:=b
 refine⟨v,Q8 k2,(k3.app hx.nx hx.wf hm hl).mono ?_⟩
 rintro v2 s2 ⟨o2,f2⟩
 have x2:Ext st0 s2:=hx.Yo f2 k3.ge
 have g2:=f2.get hx.wf k2 k4
 have hw2:Z5 s2.h q 0 [v2]=some (Qi s2.h q (.cells 35 false [v2])):=Xo g2 o2.sc
 have f3:=Frm.set x2.wf g2 (o:= .cells 35 false [v2])
 have hv:∀k n,v≠.int k n:=by
  rcases k3.form with ⟨e,_⟩ | ⟨n,e,_⟩ <;> rw[e] <;> simp
 have hq2:q∉v2.nms:=o2.apart g2 (x:=v) (by simp) hv
 refine⟨o2.Kx,_,hw2,⟨x2.Yo f3 (by simpa using k1),k1,v2,Zc g2,o2.Yo f3 x2.wf (by intro n hn h;simp at h;subst h;exact hq2 hn),hq2⟩,?_⟩
 intro n o hn ho hs
 have hnv:n∉v.nms:=by
  intro h
  rcases k3.nms h with ⟨ty,k⟩ | k <;> rw[ho]at k <;> injection k with k
  ·exact hs.1 _ _ k
  ·exact hs.2 _ _ _ k
 have:=f2.get hx.wf ho hnv
 rw[Zl g2 (by omega)]
 exact this
theorem Zve (H:B.Y4 T) {st0:St} (hx:Ext st0 st) {q:Nat} {l m:List UInt8} {x:AV} (hm:Rd st.h x 1 m.length (u8s m)) (b:Bx st0 st q l) (hl:l.length+m.length<35184372088831):
  Jg (call T (.fn 218 [] [.ptr q 0]) [x] st) fun _ s'=>(Ext st0 s'∧Bx st0 s' q (l++m))∧∀n o,n≠q→Zh st.h n=some o→Safe o→Zh s'.h n=some o:=by
 refine S6 H.e H.f rfl rfl ?_
 obtain⟨v,hv,hap⟩:=Zvd hx hm b hl
 simp[B.J2,go_sem,RO.run,hv]
 refine hap.mono ?_
 rintro v2 s2 ⟨ha,h',h1,⟨h2,h3⟩,h4⟩
 simp[go_sem,WO.run,ha,h1]
 refine⟨⟨h2.Qr hx.nx,h3.Zp h2.wf⟩,fun n o hn ho hs=> ?_⟩
 show Zh (Go.Ev.Zp st.nx _) n=_
 rw[Z2 (hx.wf.lt _ _ ho)]
 exact h4 n o hn ho hs
theorem Zbw (H:B.R8 T) (hwf:st.Wf) {s:List UInt8}:Qa T st (.fn 220 [] []) [.str s] (.tuple [.str (if 65536<s.length then []else s),.int .i64 (if 65536<s.length then 3 else 0)]):=by
 refine Zs H.e H.f rfl ?_
 by_cases h:65536<s.length
 ·simp[B.Vj,go_sem,h,show (65536:Int)<s.length by omega,Ext.refl hwf]
 ·simp[B.Vj,go_sem,h,show¬(65536:Int)<s.length by omega,Ext.refl hwf]
theorem Ztu (H:B.R9 T) {s:List UInt8} (hs:s.length≤65536) {Y:AV} {bx:Nat} (P:Nat→St→Prop) (D:St→Prop) (hwf:∀i s',P i s'→s'.Wf) (hbx:∀i s',P i s'→Zh s'.h bx=some (.cells 9 false [.str s])) (hup:∀i s' s'',P i s'→Ext s' s''→P i s'')
  (hsk:∀i s' c,s[i]? =some c→K3 c=true→P i s'→P (i+1) s')
  (hY:∀i s' (c:UInt8),s[i]? =some c→K3 c=false→P i s'→Jg (call T Y [.int .i64 (i:Int),.int .u8 (c.toNat:Int)] s') fun v s2=>(v= .bool true∧P (i+1) s2)∨(v= .bool false∧D s2)):
  ∀(m i:Nat) (e:Env) (st1:St),i+m=s.length→P i st1→Zb e 0=Y→Zb e 1= .ptr bx 0→Zb e 5= .int .i64 (s.length:Int)→Zb e 6= .int .i64 (i:Int)→
  Res (run T (.loop B.Ny) e st1) fun x e' s'=>(x= .exit 0∧P s.length s')∨(x= .ret∧D s'):=by
 intro m
 induction m with
 | zero=>
   intro i e st1 hi hP g0 g1 g5 g6
   have hil:i=s.length:=by omega
   subst hil
   rw[Zn]
   simp[B.Ny,go_sem,g0,g1,g5,g6,hP]
 | succ m ih=>
   intro i e st1 hi hP g0 g1 g5 g6
   have hil:i<s.length:=by omega
   obtain⟨c,hc,hd⟩:=Z9 hil
   have h1:(i:Int)<s.length:=by omega
   have ek:IntKind.i64.wrap ((i:Int)+1)=((i+1:Nat):Int):=Zf (by omega) (by omega)
   have hb:=Q8 (hbx _ _ hP)
   rw[Zn]
   simp[B.Ny,go_sem,g0,g1,g5,g6,h1,RO.run,hb,hc]
   refine(Zfj H.G3 (hwf _ _ hP) c).use fun s1 x1=> ?_
   have hP1:=hup _ _ _ hP x1
   cases hbl:K3 c with
   | true=>
     simp[go_sem,g0,g1,g5,g6]
     exact ih (i+1) _ _ (by omega) (hsk _ _ _ hc hbl hP1) (by simp[go_sem,g0]) (by simp[go_sem,g1]) (by simp[go_sem,g5]) (by simp[go_sem,g6,ek])
   | false=>
     have hb1:=Q8 (hbx _ _ hP1)
     simp[go_sem,g0,g1,g5,g6,RO.run,hb1,hc]
     refine(hY _ _ c hc hbl hP1).mono ?_
     rintro v s2 (⟨rfl,hP2⟩ | ⟨rfl,hD⟩)
     ·simp[go_sem,g0,g1,g5,g6]
      exact ih (i+1) _ _ (by omega) hP2 (by simp[go_sem,g0]) (by simp[go_sem,g1]) (by simp[go_sem,g5]) (by simp[go_sem,g6,ek])
     ·simp[go_sem,hD]
theorem Ze9 (H:B.R9 T) {s:List UInt8} (hs:s.length≤65536) {Y:AV} {bx:Nat} (P:Nat→St→Prop) (D:St→Prop) (hwf:∀i s',P i s'→s'.Wf) (hbx:∀i s',P i s'→Zh s'.h bx=some (.cells 9 false [.str s])) (hup:∀i s' s'',P i s'→Ext s' s''→P i s'')
  (hsk:∀i s' c,s[i]? =some c→K3 c=true→P i s'→P (i+1) s')
  (hY:∀i s' (c:UInt8),s[i]? =some c→K3 c=false→P i s'→Jg (call T Y [.int .i64 (i:Int),.int .u8 (c.toNat:Int)] s') fun v s2=>(v= .bool true∧P (i+1) s2)∨(v= .bool false∧D s2)) (h0:P 0 st)
  {Q:St→Prop} (hQ:∀s',P s.length s'∨D s'→Q ⟨Zp st.nx s'.h,s'.nx⟩):
  Jg (call T (.fn 225 [] [.ptr bx 0]) [Y] st) fun _ s'=>Q s':=by
 refine S6 H.e H.f rfl rfl ?_
 have hb:=Q8 (hbx _ _ h0)
 simp[B.Xh,go_sem,RO.run,hb]
 refine(Ztu H hs P D hwf hbx hup hsk hY s.length 0 _ st (by simp) h0 (by simp[go_sem]) (by simp[go_sem]) (by simp[go_sem]) (by simp[go_sem])).mono ?_
 rintro x e' s' (⟨rfl,h⟩ | ⟨rfl,h⟩)
 ·simp[go_sem];exact hQ _ (.inl h)
 ·simp[go_sem];exact hQ _ (.inr h)
end Go.Ev

/- What a decoder reads: over any step. -/
namespace Go.Ev
open Go
variable {T : Tab} {st : St}
structure Dec (T:Tab) (st0:St) (p q tk em:Nat) {σ:Type} (I:σ→St→Prop) (out:σ→List UInt8) (stepF:σ→UInt8→Option (Bool×σ)):Prop where
 ext:∀x s,I x s→Ext st0 s
 bx:∀x s,I x s→Bx st0 s q (out x)
 Yo:∀x s s' S,I x s→Frm S s s'→(∀m∈S,st0.nx≤m∧m≠p∧m≠q∧∀o,Zh s.h m=some o→Safe o)→I x s'
 loc:∀x s c,st0.nx≤c→I x s→I x ⟨Zp c s.h,s.nx⟩
 take:∀x s (c:UInt8),I x s→(out x).length≤1000000→Jg (call T (.fn tk [] []) [.ptr p 0,.int .u8 (c.toNat:Int),.fn em [] [.ptr q 0]] s) fun v s'=>
  Ext st0 s'∧(∀m o,m≠p→m≠q→Zh s.h m=some o→Safe o→Zh s'.h m=some o)∧
  match stepF x c with
  | none=>v= .int .i64 2
  | some (true,x')=>v= .int .i64 1∧Bx st0 s' q (out x')
  | some (false,x')=>v= .int .i64 0∧I x' s'
 len:∀x c b x',stepF x c=some (b,x')→(out x').length≤(out x).length+4
def Xn {σ:Type} (stepF:σ→UInt8→Option (Bool×σ)):σ→List UInt8→Nat→Option (σ×Nat)
 | _,[],_=>none
 | x,c::r,i=>if K3 c=true then Xn stepF x r (i+1)else match stepF x c with
   | none=>none
   | some (true,x')=>some (x',i+1)
   | some (false,x')=>Xn stepF x' r (i+1)
def Po {σ:Type} (stepF:σ→UInt8→Option (Bool×σ)) (out:σ→List UInt8) (x0:σ) (s:List UInt8):List UInt8×Nat×Int:=
 if 65536<s.length then([],0,3)else match Xn stepF x0 s 0 with
  | none=>([],0,5)
  | some (x,n)=>if 65536<(out x).length then([],0,3)else(out x,n,0)
theorem R5 (ty:Nat) (cs:List AV):Safe (.cells ty true cs):=⟨fun t l h=>(by injection h with _ h;cases h),fun t e c h=>by cases h⟩
theorem Zar (r:LSt) (e:Env) (ps:List Nat) (a b:Zx):Safe (.loop r e ps a b):=⟨fun t l h=>(by cases h),fun t e c h=>by cases h⟩
theorem Zyh (s:List UInt8):Safe (.cells 9 false [.str s]):=⟨fun t l h=>by
 injection h with _ _ h
 cases l with
 | nil=>simp[u8s]at h
 | cons c l=>simp[u8s]at h,fun t e c h=>by cases h⟩
theorem Zkq (H:B.El T) (hwf:st.Wf) {s:List UInt8} {Q:AV→St→Prop} (h:Q (.fn 225 [] [.ptr st.nx 0]) ⟨(st.nx,.cells 9 false [.str s])::st.h,st.nx+1⟩):Jg (call T (.fn 219 [] []) [.str s] st) Q:=by
 refine Q3 H.e H.f rfl ?_
 have hd:Zp st.nx ((st.nx,Z7.cells 9 false [.str s])::st.h)=(st.nx,Z7.cells 9 false [.str s])::st.h:=by
  have:Kk st.nx ((st.nx,Z7.cells 9 false [.str s])::st.h)=[]:=by
   simp only[Kk]
   exact Uo fun n o ho=>hwf.lt n o ho
  rw[Xj,this,Ed]
 simp[B.Ur,go_sem,NO.run,AV.nb,hd]
 exact h
def H9 (K:List (Nat×Z7)) (s:St):Prop:=∀m o,(m,o)∈K→Zh s.h m=some o
theorem H9.ext {K:List (Nat×Z7)} {s s':St} (a:H9 K s) (x:Ext s s') (hw:s.Wf):H9 K s':=fun m o h=>x.get hw (a m o h)
theorem H9.Yo {K:List (Nat×Z7)} {s s':St} {S:List Nat} (a:H9 K s) (x:Frm S s s') (hw:s.Wf) (h:∀m o,(m,o)∈K→m∉S):H9 K s':=fun m o hm=>x.get hw (a m o hm) (h m o hm)
def cO (n:Int):Z7:= .cells 3 true [.int .i64 n]
def kR1 (n p em:Nat) (ty1 ty2 tk:Nat) (s:List UInt8):List (Nat×Z7):=
 [(n,.cells ty1 true [.ptr p 0]),(n+1,.cells ty2 true [.fn tk [] []]),(n+2,.cells 9 true [.str []]),(n+3,cO 0),(n+4,.cells 30 true [.int .i64 0]),(n+6,.cells 310 true [.fn em [] [.ptr (n+5) 0]]),(n+8,.cells 9 false [.str s])]
theorem Is {n p em ty1 ty2 tk:Nat} {s:List UInt8}:∀m o,(m,o)∈kR1 n p em ty1 ty2 tk s→Safe o∧(m=n∨m=n+1∨m=n+2∨m=n+3∨m=n+4∨m=n+6∨m=n+8):=by
 intro m o h
 simp only[kR1,List.mem_cons,Prod.mk.injEq,List.not_mem_nil,or_false]at h
 rcases h with ⟨rfl,rfl⟩ | ⟨rfl,rfl⟩ | ⟨rfl,rfl⟩ | ⟨rfl,rfl⟩ | ⟨rfl,rfl⟩ | ⟨rfl,rfl⟩ | ⟨rfl,rfl⟩
 ·exact⟨R5 _ _,by omega⟩
 ·exact⟨R5 _ _,by omega⟩
 ·exact⟨R5 _ _,by omega⟩
 ·exact⟨R5 _ _,by omega⟩
 ·exact⟨R5 _ _,by omega⟩
 ·exact⟨R5 _ _,by omega⟩
 ·exact⟨Zyh _,by omega⟩
def Ziq {σ:Type} (stepF:σ→UInt8→Option (Bool×σ)) (out:σ→List UInt8) (x0:σ) (s:List UInt8) (st0:St) (n:Nat) (s':St):Prop:=
 ∃x k,Xn stepF x0 s 0=some (x,k)∧(out x).length≤1000000∧0<k∧k≤s.length∧Bx st0 s' (n+5) (out x)∧Zh s'.h (n+7)=some (cO k)∧Zh s'.h (n+2)=some (.cells 9 true [.str []])∧Zh s'.h (n+3)=some (cO 0)∧Zh s'.h (n+4)=some (.cells 30 true [.int .i64 0])
def Zio {σ:Type} (stepF:σ→UInt8→Option (Bool×σ)) (x0:σ) (s:List UInt8) (n:Nat) (s':St):Prop:=
 Xn stepF x0 s 0=none∧Zh s'.h (n+2)=some (.cells 9 true [.str []])∧Zh s'.h (n+3)=some (cO 0)∧Zh s'.h (n+4)=some (.cells 30 true [.int .i64 5])
theorem Zkc {st0 st s1:St} {p:Nat} {σ:Type} {I:σ→St→Prop} {out:σ→List UInt8} {stepF:σ→UInt8→Option (Bool×σ)} {x0 x:σ} (hd:Dec T st0 p (st.nx+5) 215 218 I out stepF) (hp:p<st.nx) (h0:st0.nx≤st.nx) {s:List UInt8} (hs:s.length≤65536) {i:Nat} {c:UInt8} (hc:s[i]? =some c) (hb:K3 c=false)
  {O:Z7} (hO:Safe O) (hI:I x s1) (hK:H9 (kR1 st.nx p 218 302 303 215 s) s1) (hat:Zh s1.h (st.nx+7)=some (cO 0)) (hl:Zh s1.h (st.nx+9)=some O) (hr:Xn stepF x0 s 0=Xn stepF x (s.drop i) i) (ho:(out x).length≤4*i)
  {e:Env} (g4:Zb e 4= .ptr st.nx 0) (g5:Zb e 5= .ptr (st.nx+1) 0) (g6:Zb e 6= .ptr (st.nx+2) 0) (g7:Zb e 7= .ptr (st.nx+3) 0) (g8:Zb e 8= .ptr (st.nx+4) 0) (g10:Zb e 10= .ptr (st.nx+6) 0) (g11:Zb e 11= .ptr (st.nx+7) 0) (g12:Zb e 12= .int .i64 (i:Int)) (g13:Zb e 13= .int .u8 (c.toNat:Int)):
  Res (run T B.Zy e s1) fun r _ s'=>Zh s'.h (st.nx+9)=some O∧Ext st0 s'∧
   ((r= .norm∧H9 (kR1 st.nx p 218 302 303 215 s) s'∧Zh s'.h (st.nx+7)=some (cO 0)∧∃x',I x' s'∧Xn stepF x0 s 0=Xn stepF x' (s.drop (i+1)) (i+1)∧(out x').length≤4*(i+1))∨
    (r= .exit 0∧Ziq stepF out x0 s st0 st.nx s')∨(r= .ret∧Zio stepF x0 s st.nx s')):=by
 have hil:i<s.length:=by
  rcases Nat.lt_or_ge i s.length with h | h
  ·exact h
  ·rw[List.getElem?_eq_none h]at hc;cases hc
 obtain⟨c',hc',hdr⟩:=Z9 hil
 rw[hc]at hc'
 cases hc'
 have k4:=Q8 (hK _ _ (by simp[kR1]):Zh s1.h st.nx=some (.cells 302 true [.ptr p 0]))
 have k5:=Q8 (hK _ _ (by simp[kR1]):Zh s1.h (st.nx+1)=some (.cells 303 true [.fn 215 [] []]))
 have k10:=Q8 (hK _ _ (by simp[kR1]):Zh s1.h (st.nx+6)=some (.cells 310 true [.fn 218 [] [.ptr (st.nx+5) 0]]))
 have x1:=hd.ext _ _ hI
 rw[hdr,Xn,if_neg (by simp[hb])]at hr
 have ht:=hd.take x s1 c hI (by omega)
 have hlen:=hd.len x c
 have ek:IntKind.i64.wrap ((i:Int)+1)=((i+1:Nat):Int):=Zf (by omega) (by omega)
 simp[B.Zy,go_sem,RO.run,g4,g5,g10,g13,k4,k5,k10]
 refine ht.mono ?_
 rintro v s2 ⟨x2,hf,hcase⟩
 have hK2:H9 (kR1 st.nx p 218 302 303 215 s) s2:=fun m o h=>by
  obtain⟨a1,a2⟩:=Is m o h
  exact hf m o (by omega) (by omega) (hK m o h) a1
 have hat2:=hf _ _ (by omega) (by omega) hat (R5 _ _)
 have hl2:=hf _ _ (by omega) (by omega) hl hO
 cases hst:stepF x c with
 | none=>
   rw[hst]at hcase hr
   subst hcase
   have q6:Zh s2.h (st.nx+2)=some (.cells 9 true [.str []]):=hK2 _ _ (by simp[kR1])
   have q7:Zh s2.h (st.nx+3)=some (cO 0):=hK2 _ _ (by simp[kR1])
   have q8:Zh s2.h (st.nx+4)=some (.cells 30 true [.int .i64 0]):=hK2 _ _ (by simp[kR1])
   have w6:=Xo (v:= .str []) q6 rfl
   have y6:=x2.Qh q6 (o:= .cells 9 true [.str []]) (by omega)
   have p7:=(Zl (o:= .cells 9 true [.str []]) q6 (show st.nx+2≠st.nx+3 by omega)).trans q7
   have w7:=Xo (v:= .int .i64 0) p7 rfl
   have y7:=y6.Qh p7 (o:=cO 0) (by omega)
   have p8:=(Zl (o:=cO 0) p7 (show st.nx+3≠st.nx+4 by omega)).trans ((Zl (o:= .cells 9 true [.str []]) q6 (show st.nx+2≠st.nx+4 by omega)).trans q8)
   have w8:=Xo (v:= .int .i64 5) p8 rfl
   have y8:=y7.Qh p8 (o:= .cells 30 true [.int .i64 5]) (by omega)
   have z9:=(Zl (o:= .cells 30 true [.int .i64 5]) p8 (show st.nx+4≠st.nx+9 by omega)).trans ((Zl (o:=cO 0) p7 (show st.nx+3≠st.nx+9 by omega)).trans ((Zl (o:= .cells 9 true [.str []]) q6 (show st.nx+2≠st.nx+9 by omega)).trans hl2))
   have z2:=(Zl (o:= .cells 30 true [.int .i64 5]) p8 (show st.nx+4≠st.nx+2 by omega)).trans ((Zl (o:=cO 0) p7 (show st.nx+3≠st.nx+2 by omega)).trans (Zc q6))
   have z3:=(Zl (o:= .cells 30 true [.int .i64 5]) p8 (show st.nx+4≠st.nx+3 by omega)).trans (Zc (o:=cO 0) p7)
   have z4:=Zc (o:= .cells 30 true [.int .i64 5]) p8
   simp only[cO]at w7 y7 w8 y8 p8 z9 z2 z3 z4
   simp[go_sem,WO.run,g6,g7,g8,w6,w7,w8]
   exact⟨z9,y8,hr,z2,z3,z4⟩
 | some bx=>
   obtain⟨b,x'⟩:=bx
   rw[hst]at hcase hr
   have hl4:=hlen _ _ hst
   cases b with
   | false=>
     obtain⟨rfl,hI2⟩:=hcase
     simp[go_sem]
     exact⟨hl2,x2,hK2,hat2,x',hI2,hr,by omega⟩
   | true=>
     obtain⟨rfl,hI2⟩:=hcase
     have w11:=Xo (v:= .int .i64 ((i+1:Nat):Int)) hat2 rfl
     have f11:=Frm.set x2.wf hat2 (o:=cO ((i+1:Nat):Int))
     have q6:Zh s2.h (st.nx+2)=some (.cells 9 true [.str []]):=hK2 _ _ (by simp[kR1])
     have q7:Zh s2.h (st.nx+3)=some (cO 0):=hK2 _ _ (by simp[kR1])
     have q8:Zh s2.h (st.nx+4)=some (.cells 30 true [.int .i64 0]):=hK2 _ _ (by simp[kR1])
     have y11:=x2.Qh hat2 (o:=cO ((i+1:Nat):Int)) (by omega)
     have hB:=hI2.Yo f11 x2.wf (by intro m hm;simp at hm;subst hm;exact⟨by omega,fun o ho=>by rw[hat2]at ho;cases ho;exact R5 _ _⟩)
     have z9:=(Zl (o:=cO ((i+1:Nat):Int)) hat2 (show st.nx+7≠st.nx+9 by omega)).trans hl2
     have z2:=(Zl (o:=cO ((i+1:Nat):Int)) hat2 (show st.nx+7≠st.nx+2 by omega)).trans q6
     have z3:=(Zl (o:=cO ((i+1:Nat):Int)) hat2 (show st.nx+7≠st.nx+3 by omega)).trans q7
     have z4:=(Zl (o:=cO ((i+1:Nat):Int)) hat2 (show st.nx+7≠st.nx+4 by omega)).trans q8
     have z7:=Zc (o:=cO ((i+1:Nat):Int)) hat2
     obtain⟨w,hw⟩:∃w:Nat,w=i+1:=⟨_,rfl⟩
     rw[←hw]at ek w11 y11 hB z9 z2 z3 z4 z7 hr
     simp[go_sem,WO.run,g11,g12,ek,w11]
     exact⟨z9,y11,x',w,hr,by omega,by omega,by omega,hB,z7,z2,z3,z4⟩
end Go.Ev

/- What a decoder reads, told. -/
namespace Go.Ev
open Go
variable {T : Tab} {st : St}
theorem Ziq.set {σ:Type} {stepF:σ→UInt8→Option (Bool×σ)} {out:σ→List UInt8} {x0:σ} {s:List UInt8} {st0:St} {n:Nat} {s':St} {o o':Z7} (h:Ziq stepF out x0 s st0 n s') (hw:s'.Wf) (hl:Zh s'.h (n+9)=some o) (ho:Safe o):Ziq stepF out x0 s st0 n ⟨Qi s'.h (n+9) o',s'.nx⟩:=by
 obtain⟨x,k,h1,h2,h3,h4,h5,h6,h7,h8,h9⟩:=h
 exact⟨x,k,h1,h2,h3,h4,h5.Yo (Frm.set hw hl) hw (by intro m hm;simp at hm;subst hm;exact⟨by omega,fun o2 h=>by rw[hl]at h;cases h;exact ho⟩),(Zl hl (by omega)).trans h6,(Zl hl (by omega)).trans h7,(Zl hl (by omega)).trans h8,(Zl hl (by omega)).trans h9⟩
theorem Zio.set {σ:Type} {stepF:σ→UInt8→Option (Bool×σ)} {x0:σ} {s:List UInt8} {n:Nat} {s':St} {o o':Z7} (h:Zio stepF x0 s n s') (hl:Zh s'.h (n+9)=some o):Zio stepF x0 s n ⟨Qi s'.h (n+9) o',s'.nx⟩:=by
 obtain⟨h1,h2,h3,h4⟩:=h
 exact⟨h1,(Zl hl (by omega)).trans h2,(Zl hl (by omega)).trans h3,(Zl hl (by omega)).trans h4⟩
theorem Zl3 (H:B.Vq T) {st0 st sA:St} (hx:Ext st0 st) {p:Nat} {σ:Type} {I:σ→St→Prop} {out:σ→List UInt8} {stepF:σ→UInt8→Option (Bool×σ)} {x0:σ} (hd:Dec T st0 p (st.nx+5) 215 218 I out stepF) (hp:p<st.nx) (hp0:st0.nx≤p) {s:List UInt8} (hs:s.length≤65536)
  {E:Env} {assign:Zx} (has:assign= .seq (.Zd [⟨some 12,none,.p (.Za (.t 22))⟩]) (.Zd [⟨some 13,none,.p (.Za (.t 23))⟩])) (hI:I x0 sA) (ho0:out x0=[]) (hK:H9 (kR1 st.nx p 218 302 303 215 s) sA) (hat:Zh sA.h (st.nx+7)=some (cO 0)) (hl:Zh sA.h (st.nx+9)=some (.loop .ready E [22,23] assign B.Zy)) (hA:sA.nx=st.nx+10)
  (g4:Zb E 4= .ptr st.nx 0) (g5:Zb E 5= .ptr (st.nx+1) 0) (g6:Zb E 6= .ptr (st.nx+2) 0) (g7:Zb E 7= .ptr (st.nx+3) 0) (g8:Zb E 8= .ptr (st.nx+4) 0) (g10:Zb E 10= .ptr (st.nx+6) 0) (g11:Zb E 11= .ptr (st.nx+7) 0)
  {Q:St→Prop}
  (hQ:∀s1,Ext st0 s1→(Zh s1.h (st.nx+9)=some (.loop .ready E [22,23] assign B.Zy)∧Xn stepF x0 s 0=none∧Zh s1.h (st.nx+2)=some (.cells 9 true [.str []])∧Zh s1.h (st.nx+3)=some (cO 0)∧Zh s1.h (st.nx+4)=some (.cells 30 true [.int .i64 0])∧Zh s1.h (st.nx+7)=some (cO 0))∨
    (Zh s1.h (st.nx+9)=some (.loop (.done (.exit 0)) E [22,23] assign B.Zy)∧Ziq stepF out x0 s st0 st.nx s1)∨(Zh s1.h (st.nx+9)=some (.loop (.done .ret) E [22,23] assign B.Zy)∧Zio stepF x0 s st.nx s1)→Q s1):
  Jg (call T (.fn 225 [] [.ptr (st.nx+8) 0]) [.yield (st.nx+9)] sA) fun _ s'=>Q s':=by
 have hxn:=hx.nx
 have hOsafe:∀z,Safe (.loop z E [22,23] assign B.Zy):=fun z=>Zar _ _ _ _ _
 refine Ze9 H.Ur.Xh hs
  (fun i s1=>Zh s1.h (st.nx+9)=some (.loop .ready E [22,23] assign B.Zy)∧H9 (kR1 st.nx p 218 302 303 215 s) s1∧Zh s1.h (st.nx+7)=some (cO 0)∧∃x,I x s1∧Xn stepF x0 s 0=Xn stepF x (s.drop i) i∧(out x).length≤4*i)
  (fun s1=>Ext st0 s1∧((Zh s1.h (st.nx+9)=some (.loop (.done (.exit 0)) E [22,23] assign B.Zy)∧Ziq stepF out x0 s st0 st.nx s1)∨(Zh s1.h (st.nx+9)=some (.loop (.done .ret) E [22,23] assign B.Zy)∧Zio stepF x0 s st.nx s1)))
  ?_ ?_ ?_ ?_ ?_ ⟨hl,hK,hat,x0,hI,by simp,by simp[ho0]⟩ ?_
 ·rintro i s1 ⟨_,_,_,x,hIx,_⟩;exact(hd.ext _ _ hIx).wf
 ·rintro i s1 ⟨_,h2,_⟩;exact h2 _ _ (by simp[kR1])
 ·rintro i s1 s2 ⟨h1,h2,h3,x,hIx,h4,h5⟩ hx2
  have hw:=(hd.ext _ _ hIx).wf
  exact⟨hx2.get hw h1,h2.ext hx2 hw,hx2.get hw h3,x,hd.Yo _ _ _ _ hIx (hx2.fr []) (by simp),h4,h5⟩
 ·rintro i s1 c hc hb ⟨h1,h2,h3,x,hIx,h4,h5⟩
  have hil:i<s.length:=by
   rcases Nat.lt_or_ge i s.length with h | h
   ·exact h
   ·rw[List.getElem?_eq_none h]at hc;cases hc
  obtain⟨c',hc',hdr⟩:=Z9 hil
  rw[hc]at hc'
  cases hc'
  rw[hdr,Xn,if_pos hb]at h4
  exact⟨h1,h2,h3,x,hIx,h4,by omega⟩
 ·rintro i s1 c hc hb ⟨h1,h2,h3,x,hIx,h4,h5⟩
  refine Ob h1 rfl ?_
  have hw:=(hd.ext _ _ hIx).wf
  have f1:=Frm.set hw h1 (o:= .loop .busy E [22,23] assign B.Zy)
  have hI2:=hd.Yo _ _ _ _ hIx f1 (by intro m hm;simp at hm;subst hm;exact⟨by omega,by omega,by omega,fun o ho=>by rw[h1]at ho;cases ho;exact hOsafe _⟩)
  have hK2:H9 (kR1 st.nx p 218 302 303 215 s) ⟨Qi s1.h (st.nx+9) (.loop .busy E [22,23] assign B.Zy),s1.nx⟩:=h2.Yo f1 hw (by
   intro m o hm h
   obtain⟨_,hh⟩:=Is m o hm
   simp at h
   omega)
  have hat2:=(Zl (m:=st.nx+7) (o:= .loop .busy E [22,23] assign B.Zy) h1 (by omega)).trans h3
  have hl2:=Zc (o:= .loop .busy E [22,23] assign B.Zy) h1
  have hr:=fun(e:Env) k4 k5 k6 k7 k8 k10 k11 k12 k13=>Zkc hd hp (by omega) hs hc hb (hOsafe .busy) hI2 hK2 hat2 hl2 h4 h5 (e:=e) k4 k5 k6 k7 k8 k10 k11 k12 k13
  subst has
  simp[go_sem]
  refine⟨h1,?_⟩
  refine(hr _ (by simp[go_sem,g4]) (by simp[go_sem,g5]) (by simp[go_sem,g6]) (by simp[go_sem,g7]) (by simp[go_sem,g8]) (by simp[go_sem,g10]) (by simp[go_sem,g11]) (by simp[go_sem]) (by simp[go_sem])).mono ?_
  rintro r e' s2 ⟨m9,y2,hcase⟩
  refine⟨m9,?_⟩
  rcases hcase with ⟨rfl,k1,k2,x',k3,k4,k5⟩ | ⟨rfl,k1⟩ | ⟨rfl,k1⟩
  ·have f2:=Frm.set y2.wf m9 (o:= .loop .ready E [22,23] (.seq (.Zd [⟨some 12,none,.p (.Za (.t 22))⟩]) (.Zd [⟨some 13,none,.p (.Za (.t 23))⟩])) B.Zy)
   refine .inl ⟨rfl,Zc m9,k1.Yo f2 y2.wf (by
    intro m o hm h
    obtain⟨_,hh⟩:=Is m o hm
    simp at h
    omega),(Zl m9 (by omega)).trans k2,x',hd.Yo _ _ _ _ k3 f2 (by intro m hm;simp at hm;subst hm;exact⟨by omega,by omega,by omega,fun o ho=>by rw[m9]at ho;cases ho;exact hOsafe _⟩),k4,k5⟩
  ·exact .inr ⟨rfl,y2.Qh m9 (by omega),.inl ⟨Zc m9,k1.set y2.wf m9 (hOsafe _)⟩⟩
  ·exact .inr ⟨rfl,y2.Qh m9 (by omega),.inr ⟨Zc m9,k1.set m9⟩⟩
 ·intro s1 h
  have hlt:∀m,m<st.nx+10→Zh (Zp sA.nx s1.h) m=Zh s1.h m:=fun m hm=>Z2 (by omega)
  rcases h with ⟨h1,h2,h3,x,hIx,h4,h5⟩ | ⟨y,⟨h1,x,k,a1,a2,a3,a4,a5,a6,a7,a8,a9⟩ | ⟨h1,a1,a2,a3,a4⟩⟩
  ·refine hQ _ ((hd.ext _ _ hIx).Qr (by omega)) (.inl ⟨by rw[hlt _ (by omega)];exact h1,by rw[h4,List.drop_length];rfl,?_⟩)
   simp only
   rw[hlt _ (by omega),hlt _ (by omega),hlt _ (by omega),hlt _ (by omega)]
   exact⟨h2 _ _ (by simp[kR1]),h2 _ _ (by simp[kR1]),h2 _ _ (by simp[kR1]),h3⟩
  ·refine hQ _ (y.Qr (by omega)) (.inr (.inl ⟨by rw[hlt _ (by omega)];exact h1,x,k,a1,a2,a3,a4,a5.Zp y.wf,?_⟩))
   simp only
   rw[hlt _ (by omega),hlt _ (by omega),hlt _ (by omega),hlt _ (by omega)]
   exact⟨a6,a7,a8,a9⟩
  ·refine hQ _ (y.Qr (by omega)) (.inr (.inr ⟨by rw[hlt _ (by omega)];exact h1,a1,?_⟩))
   simp only
   rw[hlt _ (by omega),hlt _ (by omega),hlt _ (by omega)]
   exact⟨a2,a3,a4⟩
theorem Zgb {st0 s3:St} {n:Nat} (y:Ext st0 s3) (h:st0.nx≤n) {u v w:AV} (q6:Zh s3.h (n+2)=some (.cells 9 true [u])) (q7:Zh s3.h (n+3)=some (.cells 3 true [v])) (q8:Zh s3.h (n+4)=some (.cells 30 true [w])) (a:List UInt8) (b c:Int):
  ∃h1 h2 h3,Z5 s3.h (n+2) 0 [.str a]=some h1∧Z5 h1 (n+3) 0 [.int .i64 b]=some h2∧Z5 h2 (n+4) 0 [.int .i64 c]=some h3∧Zo h3 (n+2) 0=some (.str a)∧Zo h3 (n+3) 0=some (.int .i64 b)∧Zo h3 (n+4) 0=some (.int .i64 c)∧Ext st0 ⟨h3,s3.nx⟩∧
   (∀m,m≠n+2→m≠n+3→m≠n+4→Zh h3 m=Zh s3.h m)∧(∀m,m≠n+2→Zh h1 m=Zh s3.h m):=by
 have y6:=y.Qh q6 (o:= .cells 9 true [.str a]) (by omega)
 have p7:=(Zl (o:= .cells 9 true [.str a]) q6 (show n+2≠n+3 by omega)).trans q7
 have y7:=y6.Qh p7 (o:= .cells 3 true [.int .i64 b]) (by omega)
 have p8:=(Zl (o:= .cells 3 true [.int .i64 b]) p7 (show n+3≠n+4 by omega)).trans ((Zl (o:= .cells 9 true [.str a]) q6 (show n+2≠n+4 by omega)).trans q8)
 have y8:=y7.Qh p8 (o:= .cells 30 true [.int .i64 c]) (by omega)
 have z2:=(Zl (o:= .cells 30 true [.int .i64 c]) p8 (show n+4≠n+2 by omega)).trans ((Zl (o:= .cells 3 true [.int .i64 b]) p7 (show n+3≠n+2 by omega)).trans (Zc (o:= .cells 9 true [.str a]) q6))
 have z3:=(Zl (o:= .cells 30 true [.int .i64 c]) p8 (show n+4≠n+3 by omega)).trans (Zc (o:= .cells 3 true [.int .i64 b]) p7)
 have z4:=Zc (o:= .cells 30 true [.int .i64 c]) p8
 refine⟨_,_,_,Xo q6 rfl,Xo p7 rfl,Xo p8 rfl,Q8 z2,Q8 z3,Q8 z4,y8,fun m h2 h3 h4=> ?_,fun m h2=> ?_⟩
 ·rw[Zl p8 (by omega),Zl p7 (by omega),Zl q6 (by omega)]
 ·rw[Zl q6 (by omega)]
theorem Zwa (H:B.Vq T) {st0:St} (hx:Ext st0 st) {p:Nat} {σ:Type} {I:σ→St→Prop} {out:σ→List UInt8} {stepF:σ→UInt8→Option (Bool×σ)} {x0:σ} (hd:Dec T st0 p (st.nx+5) 215 218 I out stepF) (hp:p<st.nx) (hp0:st0.nx≤p)
  (h0:∀s,Ext st s→Zh s.h (st.nx+5)=some (.cells 35 false [.Zk])→I x0 s) (ho0:out x0=[]) {s:List UInt8} (hs:s.length<1000000000000):
  Jg (call T (.fn 214 [] []) [.str s,.ptr p 0,.fn 215 [] []] st) fun v s'=>v=Rx (Po stepF out x0 s)∧Ext st0 s':=by
 refine Q3 H.e H.f rfl ?_
 have hxe:=hx.wf
 have a4:Ext st ⟨(st.nx+4,Z7.cells 30 true [.int .i64 0])::(st.nx+3,.cells 3 true [.int .i64 0])::(st.nx+2,.cells 9 true [.str []])::(st.nx+1,.cells 303 true [.fn 215 [] []])::(st.nx,.cells 302 true [.ptr p 0])::st.h,st.nx+5⟩:=by
  have a0:=Ext.new hxe (.cells 302 true [.ptr p 0])
  have a1:=a0.trans (Ext.new a0.wf (.cells 303 true [.fn 215 [] []]))
  have a2:=a1.trans (Ext.new a1.wf (.cells 9 true [.str []]))
  have a3:=a2.trans (Ext.new a2.wf (.cells 3 true [.int .i64 0]))
  have a4:=a3.trans (Ext.new a3.wf (.cells 30 true [.int .i64 0]))
  simpa only[Nat.add_assoc,Nat.reduceAdd] using a4
 have a8:Ext st ⟨(st.nx+7,cO 0)::(st.nx+6,Z7.cells 310 true [.fn 218 [] [.ptr (st.nx+5) 0]])::(st.nx+5,.cells 35 false [.Zk])::(st.nx+4,Z7.cells 30 true [.int .i64 0])::(st.nx+3,.cells 3 true [.int .i64 0])::(st.nx+2,.cells 9 true [.str []])::(st.nx+1,.cells 303 true [.fn 215 [] []])::(st.nx,.cells 302 true [.ptr p 0])::st.h,st.nx+8⟩:=by
  have a5:=a4.trans (Ext.new a4.wf (.cells 35 false [.Zk]))
  have a6:=a5.trans (Ext.new a5.wf (.cells 310 true [.fn 218 [] [.ptr (st.nx+5) 0]]))
  have a7:=a6.trans (Ext.new a6.wf (cO 0))
  simpa only[Nat.add_assoc,Nat.reduceAdd] using a7
 obtain⟨RT,hRT⟩:∃RT,RT=Po stepF out x0 s:=⟨_,rfl⟩
 rw[←hRT]
 unfold Po at hRT
 by_cases h:65536<s.length
 ·have h':(65536:Int)<s.length:=by omega
  rw[if_pos h]at hRT
  subst hRT
  simp[B.Qk,go_sem,NO.run,WO.run,RO.run,Nat.add_assoc,h,h',Z5,Ze,Jv,K0,Zo,Zg,Zm,Zr,Rx]
  have g4:Zh ((st.nx+4,Z7.cells 30 true [.int .i64 0])::(st.nx+3,.cells 3 true [.int .i64 0])::(st.nx+2,.cells 9 true [.str []])::(st.nx+1,.cells 303 true [.fn 215 [] []])::(st.nx,.cells 302 true [.ptr p 0])::st.h) (st.nx+4)=some (.cells 30 true [.int .i64 0]):=by simp[Ze]
  have y:=a4.Qh (st:=st) g4 (o:= .cells 30 true [.int .i64 3]) (by omega)
  simp[Jv]at y
  exact(hx.trans y).Qr hx.nx
 ·have h':¬(65536:Int)<s.length:=by omega
  rw[if_neg h]at hRT
  simp[B.Qk,go_sem,NO.run,WO.run,RO.run,Nat.add_assoc,h,h',Z5,Ze,Jv,K0,Zo]
  refine Zkq H.Ur a8.wf ?_
  simp[go_sem]
  refine Ez ?_
  have a9:=a8.trans (Ext.new a8.wf (.cells 9 false [.str s]))
  simp only[Nat.add_assoc,Nat.reduceAdd]at a9
  simp only[Nat.add_assoc,Nat.reduceAdd]
  generalize hE:([(21,AV.fn 225 [] [AV.ptr (st.nx+8) 0]),(20,AV.str s),(11,AV.ptr (st.nx+7) 0),(10,AV.ptr (st.nx+6) 0),(19,AV.fn 218 [] [AV.ptr (st.nx+5) 0]),(9,AV.ptr (st.nx+5) 0),(18,AV.bool false),(17,AV.int IntKind.i64 ↑s.length),(16,AV.str s),(8,AV.ptr (st.nx+4) 0),(7,AV.ptr (st.nx+3) 0),(6,AV.ptr (st.nx+2) 0),(5,AV.ptr (st.nx+1) 0),(4,AV.ptr st.nx 0),(0,AV.str s),(1,AV.ptr p 0),(2,AV.fn 215 [] [])]:Env)=E
  have g21:AO.ev E (.t 21)= .fn 225 [] [.ptr (st.nx+8) 0]:=by rw[←hE];simp[go_sem]
  have g4:Zb E 4= .ptr st.nx 0:=by rw[←hE];simp[go_sem]
  have g5:Zb E 5= .ptr (st.nx+1) 0:=by rw[←hE];simp[go_sem]
  have g6:Zb E 6= .ptr (st.nx+2) 0:=by rw[←hE];simp[go_sem]
  have g7:Zb E 7= .ptr (st.nx+3) 0:=by rw[←hE];simp[go_sem]
  have g8:Zb E 8= .ptr (st.nx+4) 0:=by rw[←hE];simp[go_sem]
  have g9:Zb E 9= .ptr (st.nx+5) 0:=by rw[←hE];simp[go_sem]
  have g10:Zb E 10= .ptr (st.nx+6) 0:=by rw[←hE];simp[go_sem]
  have g11:Zb E 11= .ptr (st.nx+7) 0:=by rw[←hE];simp[go_sem]
  clear hE
  rw[g21]
  generalize has:((Zx.Zd [{dst:=some 12,guard:=none,op:=MO.p (PO.Za (AO.t 22))}]).seq (Zx.Zd [{dst:=some 13,guard:=none,op:=MO.p (PO.Za (AO.t 23))}]))=assign
  have aA:=a9.trans (Ext.new a9.wf (.loop .ready E [22,23] assign B.Zy))
  simp only[Nat.add_assoc,Nat.reduceAdd]at aA
  have hxn:=hx.nx
  refine(Zl3 H hx hd hp hp0 (by omega) has.symm (h0 _ aA (by simp[Ze])) ho0 ?_ (by simp[Ze]) (by simp[Ze]) rfl g4 g5 g6 g7 g8 g10 g11
   (Q:=fun s1=>Ext st0 s1∧((Zh s1.h (st.nx+9)=some (.loop .ready E [22,23] assign B.Zy)∧Xn stepF x0 s 0=none∧Zh s1.h (st.nx+2)=some (.cells 9 true [.str []])∧Zh s1.h (st.nx+3)=some (cO 0)∧Zh s1.h (st.nx+4)=some (.cells 30 true [.int .i64 0])∧Zh s1.h (st.nx+7)=some (cO 0))∨
   (Zh s1.h (st.nx+9)=some (.loop (.done (.exit 0)) E [22,23] assign B.Zy)∧Ziq stepF out x0 s st0 st.nx s1)∨(Zh s1.h (st.nx+9)=some (.loop (.done .ret) E [22,23] assign B.Zy)∧Zio stepF x0 s st.nx s1))) (fun s1 h1 h2=>⟨h1,h2⟩)).mono ?_
  ·intro m o hm
   simp only[kR1,List.mem_cons,Prod.mk.injEq,List.not_mem_nil,or_false]at hm
   rcases hm with ⟨rfl,rfl⟩ | ⟨rfl,rfl⟩ | ⟨rfl,rfl⟩ | ⟨rfl,rfl⟩ | ⟨rfl,rfl⟩ | ⟨rfl,rfl⟩ | ⟨rfl,rfl⟩ <;> simp[Ze,cO]
  ·rintro _ s1 ⟨y,hcase⟩
   have hdl:∀m,m≠st.nx+9→Zh (Yk s1.h (st.nx+9)) m=Zh s1.h m:=fun m hm=>by rw[Yw,if_neg (by omega)]
   have yd:∀o,Zh s1.h (st.nx+9)=some o→Ext st0 ⟨Yk s1.h (st.nx+9),s1.nx⟩:=fun o ho=>y.Yo (Frm.Yk y.wf _) (by intro m hm;simp at hm;omega)
   rcases hcase with ⟨hl,hn,k2,k3,k4,k7⟩ | ⟨hl,x,k,b1,b2,b3,b4,b5,b6,b7,b8,b9⟩ | ⟨hl,hn,k2,k3,k4⟩
   ·refine .inl ⟨hl,?_⟩
    rw[hn]at hRT
    simp only at hRT
    subst hRT
    have y1:=yd _ hl
    obtain⟨h1,h2,h3,w1,w2,w3,r1,r2,r3,y2,_⟩:=Zgb (n:=st.nx) y1 (by omega) ((hdl _ (by omega)).trans k2) ((hdl _ (by omega)).trans k3) ((hdl _ (by omega)).trans k4) [] 0 5
    have r7:=Q8 ((hdl (st.nx+7) (by omega)).trans k7)
    simp[go_sem,RO.run,WO.run,g6,g7,g8,g9,g11,r7,w1,w2,w3,B.Qk,Zg,Zm,Zr,r1,r2,r3,Rx]
    exact y2.Qr hx.nx
   ·refine .inr ⟨_,hl,?_⟩
    rw[b1]at hRT
    simp only at hRT
    have y1:=yd _ hl
    have B1:Bx st0 ⟨Yk s1.h (st.nx+9),s1.nx⟩ (st.nx+5) (out x):=b5.Yo (Frm.Yk y.wf _) y.wf (by intro m hm;simp at hm;subst hm;exact⟨by omega,fun o ho=>by rw[hl]at ho;cases ho;exact Zar _ _ _ _ _⟩)
    have q2:=(hdl (st.nx+2) (by omega)).trans b7
    have q3:=(hdl (st.nx+3) (by omega)).trans b8
    have q4:=(hdl (st.nx+4) (by omega)).trans b9
    have q7:=(hdl (st.nx+7) (by omega)).trans b6
    generalize hS:(⟨Yk s1.h (st.nx+9),s1.nx⟩:St)=s3 at y1 B1⊢
    rw[show Yk s1.h (st.nx+9)=s3.h by rw[←hS]]at q2 q3 q4 q7
    clear hS hdl yd b5 b6 b7 b8 b9 hl y
    obtain⟨_,v,v1,v2,v3⟩:=B1
    have r9:=Q8 v1
    have r7:=Q8 q7
    have hk0:¬(k:Int)=0:=by omega
    have hk0':¬k=0:=by omega
    have main:∀vv:AV,v=vv→RO.run (fun a=>match a with | .t 38=>vv | _=> .bot) s3.h (.b2s (.t 38))=some (.str (out x)):=fun vv h=>by subst h;exact v2.b2s rfl
    have fin:∀(e:Env),Zb e 6= .ptr (st.nx+2) 0→Zb e 7= .ptr (st.nx+3) 0→Zb e 8= .ptr (st.nx+4) 0→Zb e 11= .ptr (st.nx+7) 0→True:=fun _ _ _ _ _=>trivial
    have hb:=Zbw H.Vj y1.wf (s:=out x)
    have hform:(v= .Zk∧out x=[])∨∃n,v= .slice n 0 (out x).length .full∧Z1 s3.h n 0 (out x).length=some (u8s (out x)):=by
     rcases v2.form with h | ⟨n,h1,h2,_⟩
     ·exact .inl h
     ·exact .inr ⟨n,h1,h2⟩
    clear v1 v2 v3 main fin
    generalize out x=o at*
    have tail:∀(K:AV→St→Prop),(∀s5,Ext s3 s5→K (.tuple [.str (if 65536<o.length then []else o),.int .i64 (if 65536<o.length then 3 else 0)]) s5)→Jg (call T (.fn 220 [] []) [.str o] s3) K:=fun K h=>hb.use h
    clear hb
    have steps:∀s5,Ext s3 s5→Ext st0 s5∧Zh s5.h (st.nx+2)=some (.cells 9 true [.str []])∧Zh s5.h (st.nx+3)=some (cO 0)∧Zh s5.h (st.nx+4)=some (.cells 30 true [.int .i64 0])∧Zh s5.h (st.nx+7)=some (cO k):=fun s5 x5=>
     ⟨y1.trans x5,x5.get y1.wf q2,x5.get y1.wf q3,x5.get y1.wf q4,x5.get y1.wf q7⟩
    by_cases hlong:65536<o.length
    ·rw[if_pos hlong]at hRT
     subst hRT
     have done:∀s5,Ext s3 s5→∃h1 h2 h3,Z5 s5.h (st.nx+2) 0 [.str []]=some h1∧Z5 h1 (st.nx+3) 0 [.int .i64 0]=some h2∧Z5 h2 (st.nx+4) 0 [.int .i64 3]=some h3∧Zo h3 (st.nx+2) 0=some (.str [])∧Zo h3 (st.nx+3) 0=some (.int .i64 0)∧Zo h3 (st.nx+4) 0=some (.int .i64 3)∧Ext st0 ⟨h3,s5.nx⟩:=fun s5 x5=>by
      obtain⟨z1,z2,z3,z4,z5⟩:=steps s5 x5
      obtain⟨h1,h2,h3,w1,w2,w3,r1,r2,r3,y2,_⟩:=Zgb (n:=st.nx) z1 (by omega) z2 z3 z4 [] 0 3
      exact⟨h1,h2,h3,w1,w2,w3,r1,r2,r3,y2⟩
     rcases hform with ⟨e1,e2⟩ | ⟨n,e1,e2⟩
     ·rw[e2]at hlong;simp at hlong
     ·subst e1
      simp[go_sem,RO.run,g9,g11,r7,r9,hk0,hk0',e2,Kb]
      refine tail _ fun s5 x5=> ?_
      obtain⟨h1,h2,h3,w1,w2,w3,r1,r2,r3,y2⟩:=done s5 x5
      simp[go_sem,WO.run,g6,g7,g8,g11,hlong,w1,w2,w3,B.Qk,Zg,Zm,Zr,RO.run,r1,r2,r3,Rx]
      exact y2.Qr hx.nx
    ·rw[if_neg hlong]at hRT
     subst hRT
     have done:∀s5,Ext s3 s5→Zo s5.h (st.nx+7) 0=some (.int .i64 (k:Int))∧∃h1 h2 h3,Z5 s5.h (st.nx+2) 0 [.str o]=some h1∧Zo h1 (st.nx+7) 0=some (.int .i64 (k:Int))∧Z5 h1 (st.nx+3) 0 [.int .i64 (k:Int)]=some h2∧Z5 h2 (st.nx+4) 0 [.int .i64 0]=some h3∧Zo h3 (st.nx+2) 0=some (.str o)∧Zo h3 (st.nx+3) 0=some (.int .i64 (k:Int))∧Zo h3 (st.nx+4) 0=some (.int .i64 0)∧Ext st0 ⟨h3,s5.nx+6⟩:=fun s5 x5=>by
      obtain⟨z1,z2,z3,z4,z5⟩:=steps s5 x5
      obtain⟨h1,h2,h3,w1,w2,w3,r1,r2,r3,y2,_,y3⟩:=Zgb (n:=st.nx) z1 (by omega) z2 z3 z4 o (k:Int) 0
      exact⟨Q8 z5,h1,h2,h3,w1,Q8 ((y3 _ (by omega)).trans z5),w2,w3,r1,r2,r3,y2.trans (Ext.aside y2.wf 6)⟩
     have rest:∀s5,Ext s3 s5→∀e:Env,True:=fun _ _ _=>trivial
     rcases hform with ⟨e1,e2⟩ | ⟨n,e1,e2⟩
     ·subst e1
      subst e2
      simp[go_sem,RO.run,g9,g11,r7,r9,hk0,hk0']
      refine tail _ fun s5 x5=> ?_
      obtain⟨r5,h1,h2,h3,w1,rh1,w2,w3,r1,r2,r3,y2⟩:=done s5 x5
      simp[go_sem,WO.run,reI,g6,g7,g8,g11,r5,rh1,w1,w2,w3,B.Qk,Zg,Zm,Zr,RO.run,r1,r2,r3,Rx]
      exact⟨rfl,y2.Qr hx.nx⟩
     ·subst e1
      simp[go_sem,RO.run,g9,g11,r7,r9,hk0,hk0',e2,Kb]
      refine tail _ fun s5 x5=> ?_
      obtain⟨r5,h1,h2,h3,w1,rh1,w2,w3,r1,r2,r3,y2⟩:=done s5 x5
      simp[go_sem,WO.run,reI,g6,g7,g8,g11,hlong,r5,rh1,w1,w2,w3,B.Qk,Zg,Zm,Zr,RO.run,r1,r2,r3,Rx]
      exact⟨rfl,y2.Qr hx.nx⟩
   ·refine .inr ⟨_,hl,?_⟩
    rw[hn]at hRT
    simp only at hRT
    subst hRT
    have y1:=yd _ hl
    have r2:=Q8 ((hdl (st.nx+2) (by omega)).trans k2)
    have r3:=Q8 ((hdl (st.nx+3) (by omega)).trans k3)
    have r4:=Q8 ((hdl (st.nx+4) (by omega)).trans k4)
    simp[go_sem,RO.run,g6,g7,g8,B.Qk,Zg,Zm,Zr,r2,r3,r4,Rx]
    exact y1.Qr hx.nx
end Go.Ev

/- ascii.Unhex told. -/
namespace Go.Ev
open Go
variable {T : Tab} {st : St}
def Ht (x:List Nat×Bool) (c:UInt8):Option (Bool×(List Nat×Bool)):=
 if c=62 then some (true,(x.1,true))else if Ox c<0 then none else some (false,(x.1++[(Ox c).toNat],false))
def Wl (x:List Nat×Bool):List UInt8:=if x.2=true then prs x.1 else prs (x.1.take (x.1.length / 2*2))
def hexI (st0:St) (p q:Nat) (x:List Nat×Bool) (s:St):Prop:=
 Ext st0 s∧st0.nx≤p∧p≠q∧Bx st0 s q (Wl x)∧(∀d∈x.1,d<16)∧∃(hi:Nat) (odd:Bool),Zh s.h p=some (.cells 301 false [.int .i64 (hi:Int),.bool odd])∧hi<16∧x.2=false∧((odd=true∧x.1.length % 2=1∧∃l,x.1=l++[hi])∨(odd=false∧x.1.length % 2=0))
theorem Zqa (h n:Nat) (hh:h<16) (hn:n<16):IntKind.u8.wrap (Zqf .i64 (h:Int) 4)=(((UInt8.ofNat (16*h)).toNat:Nat):Int)∧IntKind.u8.wrap (ior .i64 (Zqf .i64 (h:Int) 4) (n:Int))=(((UInt8.ofNat (16*h+n)).toNat:Nat):Int):=by
 have h0:(List.range 16).all (fun h=>(List.range 16).all fun n=>decide (IntKind.u8.wrap (Zqf .i64 ((h:Nat):Int) 4)=(((UInt8.ofNat (16*h)).toNat:Nat):Int)) && decide (IntKind.u8.wrap (ior .i64 (Zqf .i64 ((h:Nat):Int) 4) ((n:Nat):Int))=(((UInt8.ofNat (16*h+n)).toNat:Nat):Int)))=true:=by kernel_rfl
 have:=List.all_eq_true.1 (List.all_eq_true.1 h0 h (List.mem_range.2 hh)) n (List.mem_range.2 hn)
 simpa using this
theorem Zgc {l:List Nat} (h:l.length % 2=0):l.take (l.length / 2*2)=l:=List.take_of_length_le (by omega)
theorem Zkt {l:List Nat} {a:Nat} (h:(l++[a]).length % 2=1):(l++[a]).take ((l++[a]).length / 2*2)=l∧l.length % 2=0:=by
 simp only[List.length_append,List.length_singleton]at h⊢
 have h2:(l.length+1) / 2*2=l.length:=by omega
 rw[h2,List.take_left]
 exact⟨rfl,by omega⟩
theorem Zz4 {l:List Nat} {a:Nat} (h:l.length % 2=0):prs (l++[a])=prs l++[UInt8.ofNat (16*a)]:=by
 have h1:=Zoy (l++[a]) (by simp;omega)
 rw[List.append_assoc]at h1
 have h2:=Ze2 l a 0 h
 simp only[List.cons_append,List.nil_append]at h1
 rw[←h1,h2];rfl
theorem Zab5 (a b:AV) (h:(∃o,b= .bool o)∨b= .Y6):Safe (.cells 301 false [a,b]):=⟨fun t l e=>by
 injection e with _ _ e
 match l,e with
 | [c,d],e=>simp[u8s]at e;rcases h with ⟨o,h⟩ | h <;> simp[h]at e,fun t e c h=>by cases h⟩
theorem O0:∀l:List Nat,(prs l).length=(l.length+1) / 2
 | []=>rfl
 | [x]=>by simp[prs]
 | x::y::r=>by have:=O0 r;simp only[prs,List.length_cons,this];omega
theorem On (l:List Nat) (b:Bool):(Wl (l,b)).length=if b=true then(l.length+1) / 2 else l.length / 2:=by
 cases b with
 | true=>simp[Wl,O0]
 | false=>simp only[Wl,Bool.false_eq_true,if_false,O0,List.length_take];omega
theorem Zaby (H:B.Hf T) (H1:B.Y4 T) {st0:St} {p q:Nat}:Dec T st0 p q 215 218 (hexI st0 p q) Wl Ht where
 ext:=fun x s h=>h.1
 bx:=fun x s h=>h.2.2.2.1
 Yo:=fun x s s' S ⟨h1,h2,h3,h4,h5,hi,odd,h6,h7,h8,h9⟩ f hS=>
  ⟨h1.Yo f (fun m hm=>(hS m hm).1),h2,h3,h4.Yo f h1.wf (fun m hm=>⟨(hS m hm).2.2.1,(hS m hm).2.2.2⟩),h5,hi,odd,f.get h1.wf h6 (fun hm=>(hS p hm).2.1 rfl),h7,h8,h9⟩
 loc:=fun x s c hc ⟨h1,h2,h3,h4,h5,hi,odd,h6,h7,h8,h9⟩=>⟨h1.Qr hc,h2,h3,h4.Zp h1.wf,h5,hi,odd,Qv h1.wf h6 rfl,h7,h8,h9⟩
 len:=by
  intro x c b x' h
  obtain⟨l,bb⟩:=x
  unfold Ht at h
  split at h
  ·injection h with h;injection h with h1 h2;subst h2
   rw[On,On]
   simp only[if_true]
   split <;> omega
  ·split at h
   ·cases h
   ·injection h with h;injection h with h1 h2;subst h2
    rw[On,On]
    simp only[Bool.false_eq_true,if_false,List.length_append,List.length_singleton]
    split <;> omega
 take:=by
  intro x s c hI hlen
  obtain⟨l,bb⟩:=x
  obtain⟨h1,h2,h3,h4,h5,hi,odd,h6,h7,hbb,h8⟩:=hI
  simp only at hbb
  subst hbb
  have hps:∀a b,Safe (.cells 301 false [.int .i64 a,.bool b]):=fun a b=>Zab5 _ _ (.inl ⟨b,rfl⟩)
  refine Q3 H.e H.f rfl ?_
  simp[B.Wp,go_sem]
  refine(Zor H.W4 h1.wf c).use fun s1 x1=> ?_
  have y1:=h1.trans x1
  have g1:=x1.get h1.wf h6
  have b1:=h4.ext x1 h1.wf
  have r0:Zo s1.h p 0=some (.int .i64 (hi:Int)):=by simp[Zo,g1]
  have r1:Zo s1.h p 1=some (.bool odd):=by simp[Zo,g1]
  have c62:((c.toNat:Int)=62)↔c=62:=by rw[←UInt8.toNat_inj];simp;omega
  have keep1:∀m o,m≠p→m≠q→Zh s.h m=some o→Safe o→Zh s1.h m=some o:=fun m o _ _ ho _=>x1.get h1.wf ho
  have ltd:∀m o,Zh s.h m=some o→m<s.nx:=fun m o ho=>h1.wf.lt _ _ ho
  have emit:∀(d:UInt8),Jg (call T (.fn 218 [] [.ptr q 0]) [.slice s1.nx 0 1 (.known 1)] ⟨(s1.nx,.cells 5 false [.int .u8 (d.toNat:Int)])::s1.h,s1.nx+1⟩) fun _ s'=>Ext st0 s'∧Bx st0 s' q (Wl (l,false)++[d])∧(∀n o,n≠q→Zh s1.h n=some o→Safe o→Zh s'.h n=some o):=by
   intro d
   have xa:=Ext.new y1.wf (.cells 5 false [.int .u8 (d.toNat:Int)])
   refine(Zve H1 (y1.trans xa) (m:=[d]) (l:=Wl (l,false)) (.inr ⟨s1.nx,0,_,rfl,Mw (ty:=5) (l:=false) (by simp[Ze,u8s]) rfl⟩) (b1.ext xa y1.wf) (by simp only[List.length_singleton];omega)).mono ?_
   rintro _ s2 ⟨⟨k1,k2⟩,k3⟩
   exact⟨k1,k2,fun n o hn ho hs=>k3 n o hn (xa.get y1.wf ho) hs⟩
  by_cases hc:c=62
  ·have hst:Ht (l,false) c=some (true,(l,true)):=by simp[Ht,hc]
   rw[hst]
   simp only
   rcases h8 with ⟨rfl,ho,l',hl'⟩ | ⟨rfl,ho⟩
   ·simp only at ho hl'
    subst hl'
    obtain⟨t1,t2⟩:=Zkt ho
    have hout:Wl (l'++[hi],true)=Wl (l'++[hi],false)++[UInt8.ofNat (16*hi)]:=by
     simp only[Wl,if_true,Bool.false_eq_true,if_false]
     rw[t1,Zz4 t2]
    obtain⟨n1,_⟩:=Zqa hi 0 h7 (by omega)
    rw[hout]
    have em:=emit (UInt8.ofNat (16*hi))
    generalize UInt8.ofNat (16*hi)=d at*
    simp[go_sem,c62,hc,RO.run,NO.run,r1,r0,n1,Y3]
    refine em.mono ?_
    rintro _ s2 ⟨k1,k2,k3⟩
    simp[go_sem]
    refine⟨k1.Qr h1.nx,fun m o hm hq ho hs=> ?_,k2.Zp k1.wf⟩
    rw[Z2 (ltd m o ho)]
    exact k3 m o hq (keep1 m o hm hq ho hs) hs
   ·simp only at ho
    have hout:Wl (l,true)=Wl (l,false):=by
     simp only[Wl,if_true,Bool.false_eq_true,if_false]
     rw[Zgc ho]
    rw[hout]
    simp[go_sem,c62,hc,RO.run,r1]
    refine⟨y1.Qr h1.nx,fun m o hm hq ho hs=> ?_,b1.Zp y1.wf⟩
    rw[Z2 (ltd m o ho)]
    exact keep1 m o hm hq ho hs
  ·by_cases hn:Ox c<0
   ·have hst:Ht (l,false) c=none:=by simp[Ht,hc,hn]
    rw[hst]
    simp[go_sem,c62,hc,hn]
    refine⟨y1.Qr h1.nx,fun m o hm hq ho hs=> ?_⟩
    rw[Z2 (ltd m o ho)]
    exact keep1 m o hm hq ho hs
   ·obtain⟨n,hnn⟩:=Int.eq_ofNat_of_zero_le (show 0≤Ox c by omega)
    have hn15:=(Zuk c).2
    obtain⟨L2,hL2⟩:∃L2,L2=l++[n]:=⟨_,rfl⟩
    have hst:Ht (l,false) c=some (false,(L2,false)):=by simp[Ht,hc,hnn,hL2]
    rw[hst]
    rw[hnn]at hn hn15⊢
    have hn':¬(n:Int)<0:=hn
    have hb16:∀d∈L2,d<16:=by
     intro d hd
     rw[hL2]at hd
     rcases List.mem_append.1 hd with h | h
     ·exact h5 d h
     ·simp at h;omega
    have hlen2:L2.length=l.length+1:=by rw[hL2];simp
    simp only
    have wrt:∀(s2:St) (o1 o2:Bool),Zh s2.h p=some (.cells 301 false [.int .i64 (hi:Int),.bool o1])→Z5 s2.h p 0 [.int .i64 (n:Int)]=some (Qi s2.h p (.cells 301 false [.int .i64 (n:Int),.bool o1]))∧Z5 (Qi s2.h p (.cells 301 false [.int .i64 (n:Int),.bool o1])) p 1 [.bool o2]=some (Qi (Qi s2.h p (.cells 301 false [.int .i64 (n:Int),.bool o1])) p (.cells 301 false [.int .i64 (n:Int),.bool o2]))∧Zo s2.h p 1=some (.bool o1):=by
     intro s2 o1 o2 g
     exact⟨Y8 g rfl (by simp),Y8 (Zc g) rfl (by simp),by simp[Zo,g]⟩
    have done:∀(s2:St) (o1 o2:Bool) (out:List UInt8),Ext st0 s2→Bx st0 s2 q out→(∀m o,m≠p→m≠q→Zh s.h m=some o→Safe o→Zh s2.h m=some o)→Zh s2.h p=some (.cells 301 false [.int .i64 (hi:Int),.bool o1])→out=Wl (L2,false)→((o2=true∧L2.length % 2=1)∨(o2=false∧L2.length % 2=0))→
      Ext st0 ⟨Zp s.nx (Qi (Qi s2.h p (.cells 301 false [.int .i64 (n:Int),.bool o1])) p (.cells 301 false [.int .i64 (n:Int),.bool o2])),s2.nx⟩∧(∀m o,¬m=p→¬m=q→Zh s.h m=some o→Safe o→Zh (Zp s.nx (Qi (Qi s2.h p (.cells 301 false [.int .i64 (n:Int),.bool o1])) p (.cells 301 false [.int .i64 (n:Int),.bool o2]))) m=some o)∧hexI st0 p q (L2,false) ⟨Zp s.nx (Qi (Qi s2.h p (.cells 301 false [.int .i64 (n:Int),.bool o1])) p (.cells 301 false [.int .i64 (n:Int),.bool o2])),s2.nx⟩:=by
     intro s2 o1 o2 out z1 z2 z3 g ho hpar
     have ga:=Zc (o:= .cells 301 false [.int .i64 (n:Int),.bool o1]) g
     have gb:=Zc (o:= .cells 301 false [.int .i64 (n:Int),.bool o2]) ga
     have za:=z1.Qh g (o:= .cells 301 false [.int .i64 (n:Int),.bool o1]) h2
     have zb:=za.Qh ga (o:= .cells 301 false [.int .i64 (n:Int),.bool o2]) h2
     have ba:=z2.Yo (Frm.set z1.wf g (o:= .cells 301 false [.int .i64 (n:Int),.bool o1])) z1.wf (by intro m hm;simp at hm;subst hm;exact⟨h3,fun o ho=>by rw[g]at ho;cases ho;exact hps _ _⟩)
     have bb:=ba.Yo (Frm.set za.wf ga (o:= .cells 301 false [.int .i64 (n:Int),.bool o2])) za.wf (by intro m hm;simp at hm;subst hm;exact⟨h3,fun o ho=>by rw[ga]at ho;cases ho;exact hps _ _⟩)
     refine⟨zb.Qr h1.nx,fun m o hm hq ho hs=> ?_,zb.Qr h1.nx,h2,h3,by rw[←ho];exact bb.Zp zb.wf,hb16,n,o2,Qv zb.wf gb rfl,by omega,rfl,?_⟩
     ·rw[Z2 (ltd m o ho),Zl ga (by omega),Zl g (by omega)]
      exact z3 m o hm hq ho hs
     ·rcases hpar with ⟨k1,k2⟩ | ⟨k1,k2⟩
      ·exact .inl ⟨k1,k2,l,hL2⟩
      ·exact .inr ⟨k1,k2⟩
    rcases h8 with ⟨rfl,ho,l',hl'⟩ | ⟨rfl,ho⟩
    ·simp only at ho hl'
     have hout:Wl (l,false)++[UInt8.ofNat (16*hi+n)]=Wl (L2,false):=by
      simp only[Wl,Bool.false_eq_true,if_false]
      rw[Zgc (show L2.length % 2=0 by omega),hL2,hl']
      rw[hl']at ho
      obtain⟨t1,t2⟩:=Zkt ho
      rw[t1,List.append_assoc,List.cons_append,List.nil_append,Ze2 _ _ _ t2]
     obtain⟨_,n1⟩:=Zqa hi n h7 (by omega)
     have em:=emit (UInt8.ofNat (16*hi+n))
     generalize UInt8.ofNat (16*hi+n)=d at*
     simp[go_sem,c62,hc,hn',RO.run,NO.run,r1,r0,n1,Y3]
     refine em.mono ?_
     rintro _ s2 ⟨k1,k2,k3⟩
     have g2:=k3 p _ h3 g1 (hps _ _)
     obtain⟨w1,w2,w3⟩:=wrt s2 true false g2
     simp[go_sem,RO.run,WO.run,w1,w2,w3]
     exact done s2 true false _ k1 k2 (fun m o hm hq ho hs=>k3 m o hq (keep1 m o hm hq ho hs) hs) g2 hout (.inr ⟨rfl,by omega⟩)
    ·simp only at ho
     have hout:Wl (l,false)=Wl (L2,false):=by
      simp only[Wl,Bool.false_eq_true,if_false]
      rw[Zgc ho,hL2,(Zkt (l:=l) (a:=n) (by simp;omega)).1]
     obtain⟨w1,w2,w3⟩:=wrt s1 false true g1
     simp[go_sem,c62,hc,hn',RO.run,WO.run,r1,w1,w2,w3]
     exact done s1 false true _ y1 b1 keep1 g1 hout (.inl ⟨rfl,by omega⟩)
theorem Zkl:∀(s:List UInt8) (i:Nat) (l:List Nat),Xn Ht (l,false) s i=(P8 s i l).map fun p=>((p.1,true),p.2)
 | [],i,l=>rfl
 | c::r,i,l=>by
   unfold Xn P8
   by_cases hb:K3 c=true
   ·have hc:c≠62:=by rintro rfl;revert hb;decide
    rw[if_pos hb,if_neg hc,if_pos hb,Zkl r]
   ·rw[if_neg hb]
    unfold Ht
    by_cases hc:c=62
    ·rw[if_pos hc,if_pos hc];rfl
    ·rw[if_neg hc,if_neg hc,if_neg hb]
     by_cases hn:Ox c<0
     ·rw[if_pos hn,if_pos hn];rfl
     ·rw[if_neg hn,if_neg hn]
      exact Zkl r _ _
theorem Zd9:∀(s:List UInt8) (i:Nat) (l D:List Nat) (n:Nat),P8 s i l=some (D,n)→D.length≤l.length+s.length
 | [],i,l,D,n,h=>by cases h
 | c::r,i,l,D,n,h=>by
   unfold P8 at h
   split at h
   ·injection h with h;injection h with h1 h2;subst h1;simp
   ·split at h
    ·have:=Zd9 r _ _ _ _ h;simp;omega
    ·split at h
     ·cases h
     ·have:=Zd9 r _ _ _ _ h;simp at this⊢;omega
theorem Zv9 (s:List UInt8):Po Ht Wl ([],false) s=Zea s:=by
 unfold Po Zea
 split
 ·rfl
 ·rw[Zkl]
  cases h:P8 s 0 []with
  | none=>rfl
  | some p=>
    obtain⟨D,n⟩:=p
    have h1:=Zd9 _ _ _ _ _ h
    have h2:=O0 D
    simp only[Option.map_some,Wl,if_true]
    rw[if_neg (by simp at h1;omega)]
theorem Zr7 (H:B.Ft T) (hwf:st.Wf) {s:List UInt8} (hs:s.length<1000000000000):Qa T st (.fn 211 [] []) [.str s] (Rx (Zea s)):=by
 refine Zs H.e H.f rfl ?_
 have hx:=Ext.new hwf (.cells 301 false [.int .i64 0,.bool false])
 have hg:Zh ((st.nx,Z7.cells 301 false [.int .i64 0,.bool false])::st.h) st.nx=some (.cells 301 false [.int .i64 0,.bool false]):=by simp[Ze]
 have hr:=Zwa H.Qk (st0:=st) hx (p:=st.nx) (I:=hexI st st.nx (st.nx+6)) (Zaby H.Wp H.Qk.J2) (x0:=([],false)) (Nat.lt_succ_self _) (Nat.le_refl _)
  (fun s1 x1 g1=>⟨hx.trans x1,Nat.le_refl _,by omega,⟨by omega,.Zk,g1,Grow.nil _ _,by simp[AV.nms]⟩,by simp,0,false,x1.get hx.wf hg,by omega,rfl,.inr ⟨rfl,rfl⟩⟩) rfl hs
 rw[Zv9]at hr
 simp[B.G2,go_sem,NO.run]
 refine hr.mono ?_
 rintro _ s1 ⟨rfl,x1⟩
 simp[go_sem,Rx,x1]
end Go.Ev

/- What a decoder of base 85 reads, told: the same as for digits. -/
namespace Go.Ev
open Go
variable {T : Tab} {st : St}
theorem Zkd {st0 st s1:St} {p:Nat} {σ:Type} {I:σ→St→Prop} {out:σ→List UInt8} {stepF:σ→UInt8→Option (Bool×σ)} {x0 x:σ} (hd:Dec T st0 p (st.nx+5) 217 222 I out stepF) (hp:p<st.nx) (h0:st0.nx≤st.nx) {s:List UInt8} (hs:s.length≤65536) {i:Nat} {c:UInt8} (hc:s[i]? =some c) (hb:K3 c=false)
  {O:Z7} (hO:Safe O) (hI:I x s1) (hK:H9 (kR1 st.nx p 222 308 309 217 s) s1) (hat:Zh s1.h (st.nx+7)=some (cO 0)) (hl:Zh s1.h (st.nx+9)=some O) (hr:Xn stepF x0 s 0=Xn stepF x (s.drop i) i) (ho:(out x).length≤4*i)
  {e:Env} (g4:Zb e 4= .ptr st.nx 0) (g5:Zb e 5= .ptr (st.nx+1) 0) (g6:Zb e 6= .ptr (st.nx+2) 0) (g7:Zb e 7= .ptr (st.nx+3) 0) (g8:Zb e 8= .ptr (st.nx+4) 0) (g10:Zb e 10= .ptr (st.nx+6) 0) (g11:Zb e 11= .ptr (st.nx+7) 0) (g12:Zb e 12= .int .i64 (i:Int)) (g13:Zb e 13= .int .u8 (c.toNat:Int)):
  Res (run T B.Zz e s1) fun r _ s'=>Zh s'.h (st.nx+9)=some O∧Ext st0 s'∧
   ((r= .norm∧H9 (kR1 st.nx p 222 308 309 217 s) s'∧Zh s'.h (st.nx+7)=some (cO 0)∧∃x',I x' s'∧Xn stepF x0 s 0=Xn stepF x' (s.drop (i+1)) (i+1)∧(out x').length≤4*(i+1))∨
    (r= .exit 0∧Ziq stepF out x0 s st0 st.nx s')∨(r= .ret∧Zio stepF x0 s st.nx s')):=by
 have hil:i<s.length:=by
  rcases Nat.lt_or_ge i s.length with h | h
  ·exact h
  ·rw[List.getElem?_eq_none h]at hc;cases hc
 obtain⟨c',hc',hdr⟩:=Z9 hil
 rw[hc]at hc'
 cases hc'
 have k4:=Q8 (hK _ _ (by simp[kR1]):Zh s1.h st.nx=some (.cells 308 true [.ptr p 0]))
 have k5:=Q8 (hK _ _ (by simp[kR1]):Zh s1.h (st.nx+1)=some (.cells 309 true [.fn 217 [] []]))
 have k10:=Q8 (hK _ _ (by simp[kR1]):Zh s1.h (st.nx+6)=some (.cells 310 true [.fn 222 [] [.ptr (st.nx+5) 0]]))
 have x1:=hd.ext _ _ hI
 rw[hdr,Xn,if_neg (by simp[hb])]at hr
 have ht:=hd.take x s1 c hI (by omega)
 have hlen:=hd.len x c
 have ek:IntKind.i64.wrap ((i:Int)+1)=((i+1:Nat):Int):=Zf (by omega) (by omega)
 simp[B.Zz,go_sem,RO.run,g4,g5,g10,g13,k4,k5,k10]
 refine ht.mono ?_
 rintro v s2 ⟨x2,hf,hcase⟩
 have hK2:H9 (kR1 st.nx p 222 308 309 217 s) s2:=fun m o h=>by
  obtain⟨a1,a2⟩:=Is m o h
  exact hf m o (by omega) (by omega) (hK m o h) a1
 have hat2:=hf _ _ (by omega) (by omega) hat (R5 _ _)
 have hl2:=hf _ _ (by omega) (by omega) hl hO
 cases hst:stepF x c with
 | none=>
   rw[hst]at hcase hr
   subst hcase
   have q6:Zh s2.h (st.nx+2)=some (.cells 9 true [.str []]):=hK2 _ _ (by simp[kR1])
   have q7:Zh s2.h (st.nx+3)=some (cO 0):=hK2 _ _ (by simp[kR1])
   have q8:Zh s2.h (st.nx+4)=some (.cells 30 true [.int .i64 0]):=hK2 _ _ (by simp[kR1])
   have w6:=Xo (v:= .str []) q6 rfl
   have y6:=x2.Qh q6 (o:= .cells 9 true [.str []]) (by omega)
   have p7:=(Zl (o:= .cells 9 true [.str []]) q6 (show st.nx+2≠st.nx+3 by omega)).trans q7
   have w7:=Xo (v:= .int .i64 0) p7 rfl
   have y7:=y6.Qh p7 (o:=cO 0) (by omega)
   have p8:=(Zl (o:=cO 0) p7 (show st.nx+3≠st.nx+4 by omega)).trans ((Zl (o:= .cells 9 true [.str []]) q6 (show st.nx+2≠st.nx+4 by omega)).trans q8)
   have w8:=Xo (v:= .int .i64 5) p8 rfl
   have y8:=y7.Qh p8 (o:= .cells 30 true [.int .i64 5]) (by omega)
   have z9:=(Zl (o:= .cells 30 true [.int .i64 5]) p8 (show st.nx+4≠st.nx+9 by omega)).trans ((Zl (o:=cO 0) p7 (show st.nx+3≠st.nx+9 by omega)).trans ((Zl (o:= .cells 9 true [.str []]) q6 (show st.nx+2≠st.nx+9 by omega)).trans hl2))
   have z2:=(Zl (o:= .cells 30 true [.int .i64 5]) p8 (show st.nx+4≠st.nx+2 by omega)).trans ((Zl (o:=cO 0) p7 (show st.nx+3≠st.nx+2 by omega)).trans (Zc q6))
   have z3:=(Zl (o:= .cells 30 true [.int .i64 5]) p8 (show st.nx+4≠st.nx+3 by omega)).trans (Zc (o:=cO 0) p7)
   have z4:=Zc (o:= .cells 30 true [.int .i64 5]) p8
   simp only[cO]at w7 y7 w8 y8 p8 z9 z2 z3 z4
   simp[go_sem,WO.run,g6,g7,g8,w6,w7,w8]
   exact⟨z9,y8,hr,z2,z3,z4⟩
 | some bx=>
   obtain⟨b,x'⟩:=bx
   rw[hst]at hcase hr
   have hl4:=hlen _ _ hst
   cases b with
   | false=>
     obtain⟨rfl,hI2⟩:=hcase
     simp[go_sem]
     exact⟨hl2,x2,hK2,hat2,x',hI2,hr,by omega⟩
   | true=>
     obtain⟨rfl,hI2⟩:=hcase
     have w11:=Xo (v:= .int .i64 ((i+1:Nat):Int)) hat2 rfl
     have f11:=Frm.set x2.wf hat2 (o:=cO ((i+1:Nat):Int))
     have q6:Zh s2.h (st.nx+2)=some (.cells 9 true [.str []]):=hK2 _ _ (by simp[kR1])
     have q7:Zh s2.h (st.nx+3)=some (cO 0):=hK2 _ _ (by simp[kR1])
     have q8:Zh s2.h (st.nx+4)=some (.cells 30 true [.int .i64 0]):=hK2 _ _ (by simp[kR1])
     have y11:=x2.Qh hat2 (o:=cO ((i+1:Nat):Int)) (by omega)
     have hB:=hI2.Yo f11 x2.wf (by intro m hm;simp at hm;subst hm;exact⟨by omega,fun o ho=>by rw[hat2]at ho;cases ho;exact R5 _ _⟩)
     have z9:=(Zl (o:=cO ((i+1:Nat):Int)) hat2 (show st.nx+7≠st.nx+9 by omega)).trans hl2
     have z2:=(Zl (o:=cO ((i+1:Nat):Int)) hat2 (show st.nx+7≠st.nx+2 by omega)).trans q6
     have z3:=(Zl (o:=cO ((i+1:Nat):Int)) hat2 (show st.nx+7≠st.nx+3 by omega)).trans q7
     have z4:=(Zl (o:=cO ((i+1:Nat):Int)) hat2 (show st.nx+7≠st.nx+4 by omega)).trans q8
     have z7:=Zc (o:=cO ((i+1:Nat):Int)) hat2
     obtain⟨w,hw⟩:∃w:Nat,w=i+1:=⟨_,rfl⟩
     rw[←hw]at ek w11 y11 hB z9 z2 z3 z4 z7 hr
     simp[go_sem,WO.run,g11,g12,ek,w11]
     exact⟨z9,y11,x',w,hr,by omega,by omega,by omega,hB,z7,z2,z3,z4⟩
theorem Zl4 (H:B.Vs T) {st0 st sA:St} (hx:Ext st0 st) {p:Nat} {σ:Type} {I:σ→St→Prop} {out:σ→List UInt8} {stepF:σ→UInt8→Option (Bool×σ)} {x0:σ} (hd:Dec T st0 p (st.nx+5) 217 222 I out stepF) (hp:p<st.nx) (hp0:st0.nx≤p) {s:List UInt8} (hs:s.length≤65536)
  {E:Env} {assign:Zx} (has:assign= .seq (.Zd [⟨some 12,none,.p (.Za (.t 22))⟩]) (.Zd [⟨some 13,none,.p (.Za (.t 23))⟩])) (hI:I x0 sA) (ho0:out x0=[]) (hK:H9 (kR1 st.nx p 222 308 309 217 s) sA) (hat:Zh sA.h (st.nx+7)=some (cO 0)) (hl:Zh sA.h (st.nx+9)=some (.loop .ready E [22,23] assign B.Zz)) (hA:sA.nx=st.nx+10)
  (g4:Zb E 4= .ptr st.nx 0) (g5:Zb E 5= .ptr (st.nx+1) 0) (g6:Zb E 6= .ptr (st.nx+2) 0) (g7:Zb E 7= .ptr (st.nx+3) 0) (g8:Zb E 8= .ptr (st.nx+4) 0) (g10:Zb E 10= .ptr (st.nx+6) 0) (g11:Zb E 11= .ptr (st.nx+7) 0)
  {Q:St→Prop}
  (hQ:∀s1,Ext st0 s1→(Zh s1.h (st.nx+9)=some (.loop .ready E [22,23] assign B.Zz)∧Xn stepF x0 s 0=none∧Zh s1.h (st.nx+2)=some (.cells 9 true [.str []])∧Zh s1.h (st.nx+3)=some (cO 0)∧Zh s1.h (st.nx+4)=some (.cells 30 true [.int .i64 0])∧Zh s1.h (st.nx+7)=some (cO 0))∨
    (Zh s1.h (st.nx+9)=some (.loop (.done (.exit 0)) E [22,23] assign B.Zz)∧Ziq stepF out x0 s st0 st.nx s1)∨(Zh s1.h (st.nx+9)=some (.loop (.done .ret) E [22,23] assign B.Zz)∧Zio stepF x0 s st.nx s1)→Q s1):
  Jg (call T (.fn 225 [] [.ptr (st.nx+8) 0]) [.yield (st.nx+9)] sA) fun _ s'=>Q s':=by
 have hxn:=hx.nx
 have hOsafe:∀z,Safe (.loop z E [22,23] assign B.Zz):=fun z=>Zar _ _ _ _ _
 refine Ze9 H.Ur.Xh hs
  (fun i s1=>Zh s1.h (st.nx+9)=some (.loop .ready E [22,23] assign B.Zz)∧H9 (kR1 st.nx p 222 308 309 217 s) s1∧Zh s1.h (st.nx+7)=some (cO 0)∧∃x,I x s1∧Xn stepF x0 s 0=Xn stepF x (s.drop i) i∧(out x).length≤4*i)
  (fun s1=>Ext st0 s1∧((Zh s1.h (st.nx+9)=some (.loop (.done (.exit 0)) E [22,23] assign B.Zz)∧Ziq stepF out x0 s st0 st.nx s1)∨(Zh s1.h (st.nx+9)=some (.loop (.done .ret) E [22,23] assign B.Zz)∧Zio stepF x0 s st.nx s1)))
  ?_ ?_ ?_ ?_ ?_ ⟨hl,hK,hat,x0,hI,by simp,by simp[ho0]⟩ ?_
 ·rintro i s1 ⟨_,_,_,x,hIx,_⟩;exact(hd.ext _ _ hIx).wf
 ·rintro i s1 ⟨_,h2,_⟩;exact h2 _ _ (by simp[kR1])
 ·rintro i s1 s2 ⟨h1,h2,h3,x,hIx,h4,h5⟩ hx2
  have hw:=(hd.ext _ _ hIx).wf
  exact⟨hx2.get hw h1,h2.ext hx2 hw,hx2.get hw h3,x,hd.Yo _ _ _ _ hIx (hx2.fr []) (by simp),h4,h5⟩
 ·rintro i s1 c hc hb ⟨h1,h2,h3,x,hIx,h4,h5⟩
  have hil:i<s.length:=by
   rcases Nat.lt_or_ge i s.length with h | h
   ·exact h
   ·rw[List.getElem?_eq_none h]at hc;cases hc
  obtain⟨c',hc',hdr⟩:=Z9 hil
  rw[hc]at hc'
  cases hc'
  rw[hdr,Xn,if_pos hb]at h4
  exact⟨h1,h2,h3,x,hIx,h4,by omega⟩
 ·rintro i s1 c hc hb ⟨h1,h2,h3,x,hIx,h4,h5⟩
  refine Ob h1 rfl ?_
  have hw:=(hd.ext _ _ hIx).wf
  have f1:=Frm.set hw h1 (o:= .loop .busy E [22,23] assign B.Zz)
  have hI2:=hd.Yo _ _ _ _ hIx f1 (by intro m hm;simp at hm;subst hm;exact⟨by omega,by omega,by omega,fun o ho=>by rw[h1]at ho;cases ho;exact hOsafe _⟩)
  have hK2:H9 (kR1 st.nx p 222 308 309 217 s) ⟨Qi s1.h (st.nx+9) (.loop .busy E [22,23] assign B.Zz),s1.nx⟩:=h2.Yo f1 hw (by
   intro m o hm h
   obtain⟨_,hh⟩:=Is m o hm
   simp at h
   omega)
  have hat2:=(Zl (m:=st.nx+7) (o:= .loop .busy E [22,23] assign B.Zz) h1 (by omega)).trans h3
  have hl2:=Zc (o:= .loop .busy E [22,23] assign B.Zz) h1
  have hr:=fun(e:Env) k4 k5 k6 k7 k8 k10 k11 k12 k13=>Zkd hd hp (by omega) hs hc hb (hOsafe .busy) hI2 hK2 hat2 hl2 h4 h5 (e:=e) k4 k5 k6 k7 k8 k10 k11 k12 k13
  subst has
  simp[go_sem]
  refine⟨h1,?_⟩
  refine(hr _ (by simp[go_sem,g4]) (by simp[go_sem,g5]) (by simp[go_sem,g6]) (by simp[go_sem,g7]) (by simp[go_sem,g8]) (by simp[go_sem,g10]) (by simp[go_sem,g11]) (by simp[go_sem]) (by simp[go_sem])).mono ?_
  rintro r e' s2 ⟨m9,y2,hcase⟩
  refine⟨m9,?_⟩
  rcases hcase with ⟨rfl,k1,k2,x',k3,k4,k5⟩ | ⟨rfl,k1⟩ | ⟨rfl,k1⟩
  ·have f2:=Frm.set y2.wf m9 (o:= .loop .ready E [22,23] (.seq (.Zd [⟨some 12,none,.p (.Za (.t 22))⟩]) (.Zd [⟨some 13,none,.p (.Za (.t 23))⟩])) B.Zz)
   refine .inl ⟨rfl,Zc m9,k1.Yo f2 y2.wf (by
    intro m o hm h
    obtain⟨_,hh⟩:=Is m o hm
    simp at h
    omega),(Zl m9 (by omega)).trans k2,x',hd.Yo _ _ _ _ k3 f2 (by intro m hm;simp at hm;subst hm;exact⟨by omega,by omega,by omega,fun o ho=>by rw[m9]at ho;cases ho;exact hOsafe _⟩),k4,k5⟩
  ·exact .inr ⟨rfl,y2.Qh m9 (by omega),.inl ⟨Zc m9,k1.set y2.wf m9 (hOsafe _)⟩⟩
  ·exact .inr ⟨rfl,y2.Qh m9 (by omega),.inr ⟨Zc m9,k1.set m9⟩⟩
 ·intro s1 h
  have hlt:∀m,m<st.nx+10→Zh (Zp sA.nx s1.h) m=Zh s1.h m:=fun m hm=>Z2 (by omega)
  rcases h with ⟨h1,h2,h3,x,hIx,h4,h5⟩ | ⟨y,⟨h1,x,k,a1,a2,a3,a4,a5,a6,a7,a8,a9⟩ | ⟨h1,a1,a2,a3,a4⟩⟩
  ·refine hQ _ ((hd.ext _ _ hIx).Qr (by omega)) (.inl ⟨by rw[hlt _ (by omega)];exact h1,by rw[h4,List.drop_length];rfl,?_⟩)
   simp only
   rw[hlt _ (by omega),hlt _ (by omega),hlt _ (by omega),hlt _ (by omega)]
   exact⟨h2 _ _ (by simp[kR1]),h2 _ _ (by simp[kR1]),h2 _ _ (by simp[kR1]),h3⟩
  ·refine hQ _ (y.Qr (by omega)) (.inr (.inl ⟨by rw[hlt _ (by omega)];exact h1,x,k,a1,a2,a3,a4,a5.Zp y.wf,?_⟩))
   simp only
   rw[hlt _ (by omega),hlt _ (by omega),hlt _ (by omega),hlt _ (by omega)]
   exact⟨a6,a7,a8,a9⟩
  ·refine hQ _ (y.Qr (by omega)) (.inr (.inr ⟨by rw[hlt _ (by omega)];exact h1,a1,?_⟩))
   simp only
   rw[hlt _ (by omega),hlt _ (by omega),hlt _ (by omega)]
   exact⟨a2,a3,a4⟩
theorem Zwc (H:B.Vs T) {st0:St} (hx:Ext st0 st) {p:Nat} {σ:Type} {I:σ→St→Prop} {out:σ→List UInt8} {stepF:σ→UInt8→Option (Bool×σ)} {x0:σ} (hd:Dec T st0 p (st.nx+5) 217 222 I out stepF) (hp:p<st.nx) (hp0:st0.nx≤p)
  (h0:∀s,Ext st s→Zh s.h (st.nx+5)=some (.cells 35 false [.Zk])→I x0 s) (ho0:out x0=[]) {s:List UInt8} (hs:s.length<1000000000000):
  Jg (call T (.fn 216 [] []) [.str s,.ptr p 0,.fn 217 [] []] st) fun v s'=>v=Rx (Po stepF out x0 s)∧Ext st0 s':=by
 refine Q3 H.e H.f rfl ?_
 have hxe:=hx.wf
 have a4:Ext st ⟨(st.nx+4,Z7.cells 30 true [.int .i64 0])::(st.nx+3,.cells 3 true [.int .i64 0])::(st.nx+2,.cells 9 true [.str []])::(st.nx+1,.cells 309 true [.fn 217 [] []])::(st.nx,.cells 308 true [.ptr p 0])::st.h,st.nx+5⟩:=by
  have a0:=Ext.new hxe (.cells 308 true [.ptr p 0])
  have a1:=a0.trans (Ext.new a0.wf (.cells 309 true [.fn 217 [] []]))
  have a2:=a1.trans (Ext.new a1.wf (.cells 9 true [.str []]))
  have a3:=a2.trans (Ext.new a2.wf (.cells 3 true [.int .i64 0]))
  have a4:=a3.trans (Ext.new a3.wf (.cells 30 true [.int .i64 0]))
  simpa only[Nat.add_assoc,Nat.reduceAdd] using a4
 have a8:Ext st ⟨(st.nx+7,cO 0)::(st.nx+6,Z7.cells 310 true [.fn 222 [] [.ptr (st.nx+5) 0]])::(st.nx+5,.cells 35 false [.Zk])::(st.nx+4,Z7.cells 30 true [.int .i64 0])::(st.nx+3,.cells 3 true [.int .i64 0])::(st.nx+2,.cells 9 true [.str []])::(st.nx+1,.cells 309 true [.fn 217 [] []])::(st.nx,.cells 308 true [.ptr p 0])::st.h,st.nx+8⟩:=by
  have a5:=a4.trans (Ext.new a4.wf (.cells 35 false [.Zk]))
  have a6:=a5.trans (Ext.new a5.wf (.cells 310 true [.fn 222 [] [.ptr (st.nx+5) 0]]))
  have a7:=a6.trans (Ext.new a6.wf (cO 0))
  simpa only[Nat.add_assoc,Nat.reduceAdd] using a7
 obtain⟨RT,hRT⟩:∃RT,RT=Po stepF out x0 s:=⟨_,rfl⟩
 rw[←hRT]
 unfold Po at hRT
 by_cases h:65536<s.length
 ·have h':(65536:Int)<s.length:=by omega
  rw[if_pos h]at hRT
  subst hRT
  simp[B.Ql,go_sem,NO.run,WO.run,RO.run,Nat.add_assoc,h,h',Z5,Ze,Jv,K0,Zo,Zg,Zm,Zr,Rx]
  have g4:Zh ((st.nx+4,Z7.cells 30 true [.int .i64 0])::(st.nx+3,.cells 3 true [.int .i64 0])::(st.nx+2,.cells 9 true [.str []])::(st.nx+1,.cells 309 true [.fn 217 [] []])::(st.nx,.cells 308 true [.ptr p 0])::st.h) (st.nx+4)=some (.cells 30 true [.int .i64 0]):=by simp[Ze]
  have y:=a4.Qh (st:=st) g4 (o:= .cells 30 true [.int .i64 3]) (by omega)
  simp[Jv]at y
  exact(hx.trans y).Qr hx.nx
 ·have h':¬(65536:Int)<s.length:=by omega
  rw[if_neg h]at hRT
  simp[B.Ql,go_sem,NO.run,WO.run,RO.run,Nat.add_assoc,h,h',Z5,Ze,Jv,K0,Zo]
  refine Zkq H.Ur a8.wf ?_
  simp[go_sem]
  refine Ez ?_
  have a9:=a8.trans (Ext.new a8.wf (.cells 9 false [.str s]))
  simp only[Nat.add_assoc,Nat.reduceAdd]at a9
  simp only[Nat.add_assoc,Nat.reduceAdd]
  generalize hE:([(21,AV.fn 225 [] [AV.ptr (st.nx+8) 0]),(20,AV.str s),(11,AV.ptr (st.nx+7) 0),(10,AV.ptr (st.nx+6) 0),(19,AV.fn 222 [] [AV.ptr (st.nx+5) 0]),(9,AV.ptr (st.nx+5) 0),(18,AV.bool false),(17,AV.int IntKind.i64 ↑s.length),(16,AV.str s),(8,AV.ptr (st.nx+4) 0),(7,AV.ptr (st.nx+3) 0),(6,AV.ptr (st.nx+2) 0),(5,AV.ptr (st.nx+1) 0),(4,AV.ptr st.nx 0),(0,AV.str s),(1,AV.ptr p 0),(2,AV.fn 217 [] [])]:Env)=E
  have g21:AO.ev E (.t 21)= .fn 225 [] [.ptr (st.nx+8) 0]:=by rw[←hE];simp[go_sem]
  have g4:Zb E 4= .ptr st.nx 0:=by rw[←hE];simp[go_sem]
  have g5:Zb E 5= .ptr (st.nx+1) 0:=by rw[←hE];simp[go_sem]
  have g6:Zb E 6= .ptr (st.nx+2) 0:=by rw[←hE];simp[go_sem]
  have g7:Zb E 7= .ptr (st.nx+3) 0:=by rw[←hE];simp[go_sem]
  have g8:Zb E 8= .ptr (st.nx+4) 0:=by rw[←hE];simp[go_sem]
  have g9:Zb E 9= .ptr (st.nx+5) 0:=by rw[←hE];simp[go_sem]
  have g10:Zb E 10= .ptr (st.nx+6) 0:=by rw[←hE];simp[go_sem]
  have g11:Zb E 11= .ptr (st.nx+7) 0:=by rw[←hE];simp[go_sem]
  clear hE
  rw[g21]
  generalize has:((Zx.Zd [{dst:=some 12,guard:=none,op:=MO.p (PO.Za (AO.t 22))}]).seq (Zx.Zd [{dst:=some 13,guard:=none,op:=MO.p (PO.Za (AO.t 23))}]))=assign
  have aA:=a9.trans (Ext.new a9.wf (.loop .ready E [22,23] assign B.Zz))
  simp only[Nat.add_assoc,Nat.reduceAdd]at aA
  have hxn:=hx.nx
  refine(Zl4 H hx hd hp hp0 (by omega) has.symm (h0 _ aA (by simp[Ze])) ho0 ?_ (by simp[Ze]) (by simp[Ze]) rfl g4 g5 g6 g7 g8 g10 g11
   (Q:=fun s1=>Ext st0 s1∧((Zh s1.h (st.nx+9)=some (.loop .ready E [22,23] assign B.Zz)∧Xn stepF x0 s 0=none∧Zh s1.h (st.nx+2)=some (.cells 9 true [.str []])∧Zh s1.h (st.nx+3)=some (cO 0)∧Zh s1.h (st.nx+4)=some (.cells 30 true [.int .i64 0])∧Zh s1.h (st.nx+7)=some (cO 0))∨
   (Zh s1.h (st.nx+9)=some (.loop (.done (.exit 0)) E [22,23] assign B.Zz)∧Ziq stepF out x0 s st0 st.nx s1)∨(Zh s1.h (st.nx+9)=some (.loop (.done .ret) E [22,23] assign B.Zz)∧Zio stepF x0 s st.nx s1))) (fun s1 h1 h2=>⟨h1,h2⟩)).mono ?_
  ·intro m o hm
   simp only[kR1,List.mem_cons,Prod.mk.injEq,List.not_mem_nil,or_false]at hm
   rcases hm with ⟨rfl,rfl⟩ | ⟨rfl,rfl⟩ | ⟨rfl,rfl⟩ | ⟨rfl,rfl⟩ | ⟨rfl,rfl⟩ | ⟨rfl,rfl⟩ | ⟨rfl,rfl⟩ <;> simp[Ze,cO]
  ·rintro _ s1 ⟨y,hcase⟩
   have hdl:∀m,m≠st.nx+9→Zh (Yk s1.h (st.nx+9)) m=Zh s1.h m:=fun m hm=>by rw[Yw,if_neg (by omega)]
   have yd:∀o,Zh s1.h (st.nx+9)=some o→Ext st0 ⟨Yk s1.h (st.nx+9),s1.nx⟩:=fun o ho=>y.Yo (Frm.Yk y.wf _) (by intro m hm;simp at hm;omega)
   rcases hcase with ⟨hl,hn,k2,k3,k4,k7⟩ | ⟨hl,x,k,b1,b2,b3,b4,b5,b6,b7,b8,b9⟩ | ⟨hl,hn,k2,k3,k4⟩
   ·refine .inl ⟨hl,?_⟩
    rw[hn]at hRT
    simp only at hRT
    subst hRT
    have y1:=yd _ hl
    obtain⟨h1,h2,h3,w1,w2,w3,r1,r2,r3,y2,_⟩:=Zgb (n:=st.nx) y1 (by omega) ((hdl _ (by omega)).trans k2) ((hdl _ (by omega)).trans k3) ((hdl _ (by omega)).trans k4) [] 0 5
    have r7:=Q8 ((hdl (st.nx+7) (by omega)).trans k7)
    simp[go_sem,RO.run,WO.run,g6,g7,g8,g9,g11,r7,w1,w2,w3,B.Ql,Zg,Zm,Zr,r1,r2,r3,Rx]
    exact y2.Qr hx.nx
   ·refine .inr ⟨_,hl,?_⟩
    rw[b1]at hRT
    simp only at hRT
    have y1:=yd _ hl
    have B1:Bx st0 ⟨Yk s1.h (st.nx+9),s1.nx⟩ (st.nx+5) (out x):=b5.Yo (Frm.Yk y.wf _) y.wf (by intro m hm;simp at hm;subst hm;exact⟨by omega,fun o ho=>by rw[hl]at ho;cases ho;exact Zar _ _ _ _ _⟩)
    have q2:=(hdl (st.nx+2) (by omega)).trans b7
    have q3:=(hdl (st.nx+3) (by omega)).trans b8
    have q4:=(hdl (st.nx+4) (by omega)).trans b9
    have q7:=(hdl (st.nx+7) (by omega)).trans b6
    generalize hS:(⟨Yk s1.h (st.nx+9),s1.nx⟩:St)=s3 at y1 B1⊢
    rw[show Yk s1.h (st.nx+9)=s3.h by rw[←hS]]at q2 q3 q4 q7
    clear hS hdl yd b5 b6 b7 b8 b9 hl y
    obtain⟨_,v,v1,v2,v3⟩:=B1
    have r9:=Q8 v1
    have r7:=Q8 q7
    have hk0:¬(k:Int)=0:=by omega
    have hk0':¬k=0:=by omega
    have main:∀vv:AV,v=vv→RO.run (fun a=>match a with | .t 38=>vv | _=> .bot) s3.h (.b2s (.t 38))=some (.str (out x)):=fun vv h=>by subst h;exact v2.b2s rfl
    have fin:∀(e:Env),Zb e 6= .ptr (st.nx+2) 0→Zb e 7= .ptr (st.nx+3) 0→Zb e 8= .ptr (st.nx+4) 0→Zb e 11= .ptr (st.nx+7) 0→True:=fun _ _ _ _ _=>trivial
    have hb:=Zbw H.Vj y1.wf (s:=out x)
    have hform:(v= .Zk∧out x=[])∨∃n,v= .slice n 0 (out x).length .full∧Z1 s3.h n 0 (out x).length=some (u8s (out x)):=by
     rcases v2.form with h | ⟨n,h1,h2,_⟩
     ·exact .inl h
     ·exact .inr ⟨n,h1,h2⟩
    clear v1 v2 v3 main fin
    generalize out x=o at*
    have tail:∀(K:AV→St→Prop),(∀s5,Ext s3 s5→K (.tuple [.str (if 65536<o.length then []else o),.int .i64 (if 65536<o.length then 3 else 0)]) s5)→Jg (call T (.fn 220 [] []) [.str o] s3) K:=fun K h=>hb.use h
    clear hb
    have steps:∀s5,Ext s3 s5→Ext st0 s5∧Zh s5.h (st.nx+2)=some (.cells 9 true [.str []])∧Zh s5.h (st.nx+3)=some (cO 0)∧Zh s5.h (st.nx+4)=some (.cells 30 true [.int .i64 0])∧Zh s5.h (st.nx+7)=some (cO k):=fun s5 x5=>
     ⟨y1.trans x5,x5.get y1.wf q2,x5.get y1.wf q3,x5.get y1.wf q4,x5.get y1.wf q7⟩
    by_cases hlong:65536<o.length
    ·rw[if_pos hlong]at hRT
     subst hRT
     have done:∀s5,Ext s3 s5→∃h1 h2 h3,Z5 s5.h (st.nx+2) 0 [.str []]=some h1∧Z5 h1 (st.nx+3) 0 [.int .i64 0]=some h2∧Z5 h2 (st.nx+4) 0 [.int .i64 3]=some h3∧Zo h3 (st.nx+2) 0=some (.str [])∧Zo h3 (st.nx+3) 0=some (.int .i64 0)∧Zo h3 (st.nx+4) 0=some (.int .i64 3)∧Ext st0 ⟨h3,s5.nx⟩:=fun s5 x5=>by
      obtain⟨z1,z2,z3,z4,z5⟩:=steps s5 x5
      obtain⟨h1,h2,h3,w1,w2,w3,r1,r2,r3,y2,_⟩:=Zgb (n:=st.nx) z1 (by omega) z2 z3 z4 [] 0 3
      exact⟨h1,h2,h3,w1,w2,w3,r1,r2,r3,y2⟩
     rcases hform with ⟨e1,e2⟩ | ⟨n,e1,e2⟩
     ·rw[e2]at hlong;simp at hlong
     ·subst e1
      simp[go_sem,RO.run,g9,g11,r7,r9,hk0,hk0',e2,Kb]
      refine tail _ fun s5 x5=> ?_
      obtain⟨h1,h2,h3,w1,w2,w3,r1,r2,r3,y2⟩:=done s5 x5
      simp[go_sem,WO.run,g6,g7,g8,g11,hlong,w1,w2,w3,B.Ql,Zg,Zm,Zr,RO.run,r1,r2,r3,Rx]
      exact y2.Qr hx.nx
    ·rw[if_neg hlong]at hRT
     subst hRT
     have done:∀s5,Ext s3 s5→Zo s5.h (st.nx+7) 0=some (.int .i64 (k:Int))∧∃h1 h2 h3,Z5 s5.h (st.nx+2) 0 [.str o]=some h1∧Zo h1 (st.nx+7) 0=some (.int .i64 (k:Int))∧Z5 h1 (st.nx+3) 0 [.int .i64 (k:Int)]=some h2∧Z5 h2 (st.nx+4) 0 [.int .i64 0]=some h3∧Zo h3 (st.nx+2) 0=some (.str o)∧Zo h3 (st.nx+3) 0=some (.int .i64 (k:Int))∧Zo h3 (st.nx+4) 0=some (.int .i64 0)∧Ext st0 ⟨h3,s5.nx+6⟩:=fun s5 x5=>by
      obtain⟨z1,z2,z3,z4,z5⟩:=steps s5 x5
      obtain⟨h1,h2,h3,w1,w2,w3,r1,r2,r3,y2,_,y3⟩:=Zgb (n:=st.nx) z1 (by omega) z2 z3 z4 o (k:Int) 0
      exact⟨Q8 z5,h1,h2,h3,w1,Q8 ((y3 _ (by omega)).trans z5),w2,w3,r1,r2,r3,y2.trans (Ext.aside y2.wf 6)⟩
     have rest:∀s5,Ext s3 s5→∀e:Env,True:=fun _ _ _=>trivial
     rcases hform with ⟨e1,e2⟩ | ⟨n,e1,e2⟩
     ·subst e1
      subst e2
      simp[go_sem,RO.run,g9,g11,r7,r9,hk0,hk0']
      refine tail _ fun s5 x5=> ?_
      obtain⟨r5,h1,h2,h3,w1,rh1,w2,w3,r1,r2,r3,y2⟩:=done s5 x5
      simp[go_sem,WO.run,reI,g6,g7,g8,g11,r5,rh1,w1,w2,w3,B.Ql,Zg,Zm,Zr,RO.run,r1,r2,r3,Rx]
      exact⟨rfl,y2.Qr hx.nx⟩
     ·subst e1
      simp[go_sem,RO.run,g9,g11,r7,r9,hk0,hk0',e2,Kb]
      refine tail _ fun s5 x5=> ?_
      obtain⟨r5,h1,h2,h3,w1,rh1,w2,w3,r1,r2,r3,y2⟩:=done s5 x5
      simp[go_sem,WO.run,reI,g6,g7,g8,g11,hlong,r5,rh1,w1,w2,w3,B.Ql,Zg,Zm,Zr,RO.run,r1,r2,r3,Rx]
      exact⟨rfl,y2.Qr hx.nx⟩
   ·refine .inr ⟨_,hl,?_⟩
    rw[hn]at hRT
    simp only at hRT
    subst hRT
    have y1:=yd _ hl
    have r2:=Q8 ((hdl (st.nx+2) (by omega)).trans k2)
    have r3:=Q8 ((hdl (st.nx+3) (by omega)).trans k3)
    have r4:=Q8 ((hdl (st.nx+4) (by omega)).trans k4)
    simp[go_sem,RO.run,g6,g7,g8,B.Ql,Zg,Zm,Zr,r2,r3,r4,Rx]
    exact y1.Qr hx.nx
end Go.Ev

/- Numbers in base 85. -/
namespace Go.Ev
open Go
variable {T : Tab} {st : St}
def d85 (n:Nat) (c:UInt8):Nat:=n*85+(c.toNat - 33)
def v85:List UInt8→Nat→Nat
 | [],n=>n
 | c::r,n=>v85 r (d85 n c)
theorem Zff (n:Nat):v85 [] n=n:=rfl
theorem Zfe (c:UInt8) (r:List UInt8) (n:Nat):v85 (c::r) n=v85 r (d85 n c):=rfl
def Wn (n:Nat):List UInt8:=[UInt8.ofNat (n / 16777216),UInt8.ofNat (n / 65536),UInt8.ofNat (n / 256),UInt8.ofNat n]
theorem Zr9 (s:List UInt8):∀(n:Nat) (c:UInt8),v85 (s++[c]) n=d85 (v85 s n) c:=by
 induction s with
 | nil=>intro n c;rw[List.nil_append,Zfe,Zff,Zff]
 | cons a r ih=>intro n c;rw[List.cons_append,Zfe,Zfe,ih]
theorem Zach (s:List UInt8):∀(n:Nat),v85 s n<(n+4)*85 ^ s.length:=by
 induction s with
 | nil=>intro n;rw[Zff,List.length_nil,Nat.pow_zero];omega
 | cons c r ih=>
   intro n
   have h:=ih (d85 n c)
   have hc:=c.toNat_lt
   rw[Zfe,List.length_cons,Nat.pow_succ]
   refine Nat.lt_of_lt_of_le h ?_
   rw[Nat.mul_comm (85 ^ r.length) 85,←Nat.mul_assoc]
   exact Nat.mul_le_mul_right _ (by unfold d85;omega)
theorem Zin {s:List UInt8} (h:s.length≤5):v85 s 0<17748212500:=by
 have h1:=Zach s 0
 have h2:85 ^ s.length≤85 ^ 5:=Nat.pow_le_pow_right (by omega) h
 have h3:(0+4)*85 ^ s.length≤(0+4)*85 ^ 5:=Nat.mul_le_mul_left _ h2
 omega
theorem Zpc {n:Int} (h0:0≤n) (h1:n<18446744073709551616):IntKind.u64.wrap n=n:=by
 simp[IntKind.wrap,IntKind.signed,IntKind.bits];omega
theorem Zhg (n:Nat):IntKind.u8.wrap (n:Int)=((UInt8.ofNat n).toNat:Int):=by
 rw[UInt8.toNat_ofNat']
 simp[IntKind.wrap,IntKind.signed,IntKind.bits]
theorem Zjs {a b:Nat} (hb:b≤64):Zqg .u64 (a:Int) (b:Int)=((a / 2 ^ b:Nat):Int):=by
 rw[Zxn (by omega) hb];push_cast;rfl
theorem Zvi {l:List UInt8} (hl:l.length≤5) (hc:∀c∈l,33≤c.toNat) {n:Nat} {cp:Cap} {m:AV} (hrd:Z1 st.h n 0 l.length=some (u8s l)):∀(j i:Nat) (e:Env),i+j=l.length→Zb e 2=m→Zb e 4= .int .u64 ((v85 (l.take i) 0:Nat):Int)→Zb e 7= .slice n 0 l.length cp→Zb e 8= .int .i64 (l.length:Int)→Zb e 9= .int .i64 (i:Int)→
  Res (run T (.loop B.Ep) e st) fun x e' s'=>x= .exit 0∧s'=st∧Zb e' 2=m∧Zb e' 4= .int .u64 ((v85 l 0:Nat):Int):=by
 intro j
 induction j with
 | zero=>
   intro i e hi g2 g4 g7 g8 g9
   have hil:i=l.length:=by omega
   subst hil
   rw[List.take_length]at g4
   rw[Zn]
   simp[B.Ep,go_sem,g2,g4,g7,g8,g9]
 | succ j ih=>
   intro i e hi g2 g4 g7 g8 g9
   have h1:(i:Int)<l.length:=by omega
   obtain⟨c,hcc,hd⟩:=Z9 (s:=l) (i:=i) (by omega)
   have c33:=hc c (List.mem_of_getElem? hcc)
   have cl:=c.toNat_lt
   have hr:Zo st.h n i=some (.int .u8 (c.toNat:Int)):=by
    have:=G9 hrd (i:=i) (by omega)
    rw[Nat.zero_add]at this
    rw[this];simp[u8s,hcc]
   have hsn:=Zr9 (l.take i) 0 c
   rw[←I2 hcc]at hsn
   have hb:=Zin (s:=l.take i) (by simp;omega)
   have ih2:=fun e'=>ih (i+1) e' (by omega)
   rw[hsn]at ih2
   generalize v85 (l.take i) 0=N at*
   unfold d85 at ih2
   obtain⟨k,hk⟩:∃k:Nat,k=c.toNat - 33:=⟨_,rfl⟩
   obtain⟨w,hw⟩:∃w:Nat,w=N*85+k:=⟨_,rfl⟩
   rw[←hk,←hw]at ih2
   have w1:IntKind.u64.wrap ((N:Int)*85)=(N:Int)*85:=Zpc (by omega) (by omega)
   have w2:IntKind.u8.wrap ((c.toNat:Int) - 33)=(k:Int):=by rw[wrap_u8 (by omega) (by omega)];omega
   have w3:IntKind.u64.wrap (k:Int)=(k:Int):=Zpc (by omega) (by omega)
   have w4:IntKind.u64.wrap ((N:Int)*85+(k:Int))=(w:Int):=by rw[Zpc (by omega) (by omega)];omega
   have ek:IntKind.i64.wrap ((i:Int)+1)=((i+1:Nat):Int):=Zf (by omega) (by omega)
   have hil:i<l.length:=by omega
   clear ih hi hd hsn hb hcc c33 cl hk hw
   rw[Zn]
   simp[B.Ep,go_sem,RO.run,g2,g4,g7,g8,g9,h1,hil,hr,w1,w2,w3,w4]
   exact ih2 _ (by simp[go_sem,g2]) (by simp[go_sem,w4]) (by simp[go_sem,g7]) (by simp[go_sem,g8]) (by simp[go_sem,ek])
theorem Zjb (H:B.D9 T) (hwf:st.Wf) {l:List UInt8} (hl:l.length≤5) (hc:∀c∈l,33≤c.toNat) {n:Nat} {cp:Cap} (hrd:Z1 st.h n 0 l.length=some (u8s l)):
  Qa T st (.fn 224 [] []) [.slice n 0 l.length cp] (.tuple [.agg (u8s (Wn (v85 l 0))),.bool (decide (v85 l 0<4294967296))]):=by
 refine Zs H.e H.f rfl ?_
 have hx:=Ext.new hwf (.cells 318 true [.int .u8 0,.int .u8 0,.int .u8 0,.int .u8 0])
 have hrd2:Z1 ((st.nx,Z7.cells 318 true [.int .u8 0,.int .u8 0,.int .u8 0,.int .u8 0])::st.h) n 0 l.length=some (u8s l):=by
  rw[←hrd]
  obtain⟨o,ho⟩:=Rc hrd
  unfold Z1
  rw[hx.get hwf ho,ho]
 have hg:Zh ((st.nx,Z7.cells 318 true [.int .u8 0,.int .u8 0,.int .u8 0,.int .u8 0])::st.h) st.nx=some (.cells 318 true [.int .u8 0,.int .u8 0,.int .u8 0,.int .u8 0]):=by simp[Ze]
 simp[B.Nc,go_sem,NO.run]
 refine(Zvi (st:=⟨(st.nx,Z7.cells 318 true [.int .u8 0,.int .u8 0,.int .u8 0,.int .u8 0])::st.h,st.nx+1⟩) hl hc hrd2 (cp:=cp) (m:= .ptr st.nx 0) l.length 0 _ (by simp) (by simp[go_sem]) (by simp[go_sem,Zff]) (by simp[go_sem]) (by simp[go_sem]) (by simp[go_sem])).mono ?_
 rintro x e s1 ⟨rfl,rfl,g2,g4⟩
 generalize v85 l 0=N at*
 have s1:Zqg .u64 (N:Int) 24=((N / 16777216:Nat):Int):=Zjs (b:=24) (by omega)
 have s2:Zqg .u64 (N:Int) 16=((N / 65536:Nat):Int):=Zjs (b:=16) (by omega)
 have s3:Zqg .u64 (N:Int) 8=((N / 256:Nat):Int):=Zjs (b:=8) (by omega)
 have q1:=Zhg (N / 16777216)
 have q2:=Zhg (N / 65536)
 have q3:=Zhg (N / 256)
 have q4:=Zhg N
 have hlt:((N:Int)<4294967296)=(N<4294967296):=by simp;omega
 have y:=hx.Qh (st:=st) hg (o:= .cells 318 true (u8s (Wn N))) (by omega)
 simp only[Wn,u8s,List.map_cons,List.map_nil]at y⊢
 generalize N / 16777216=A at*
 generalize N / 65536=B at*
 generalize N / 256=C at*
 generalize UInt8.ofNat A=a at*
 generalize UInt8.ofNat B=b at*
 generalize UInt8.ofNat C=c at*
 generalize UInt8.ofNat N=d at*
 simp[go_sem,g2,g4,s1,s2,s3,q1,q2,q3,q4,WO.run,Z5,Ze,Jv,K0,Zg,Zm,Zr,RO.run,Z1,hlt]
 simp[Jv]at y
 exact y
end Go.Ev

/- ascii.Unbase85: its steps. -/
namespace Go.Ev
open Go
variable {T : Tab} {st : St}
theorem Grow.app2 {st0 s1:St} (hF:st0.nx≤s1.nx) (hw:s1.Wf) {v x:AV} {l m:List UInt8} (a:Grow st0 s1 v l) (hx:Rd s1.h x 1 m.length (u8s m)) (hl:l.length+m.length<35184372088831):
  Jg (Ym 5 1 1 s1 v x) fun v' s=>Grow st0 s v' (l++m)∧Frm v.nms s1 s∧Xg v.nms s1 v':=by
 obtain⟨a1,a2,a3⟩:=a
 have hap:=Sl.append (x:=x) (j:=m.length) (new:=u8s m) (b:=1) (Frm.refl hw v.nms) (fun n h=> .inl h) a1 hx (by simp[u8s,AV.sc]) (by omega) (by omega) (.inr fun n c h=>a3 _ _ _ _ h)
 refine(hap.Zsl (fun _ _ h=>Gw h a3)).mono ?_
 rintro v2 s2 ⟨⟨k1,k2,k3,_⟩,hnk2⟩
 refine⟨⟨by rw[Zdj,List.length_append];exact k1,fun n hn=> ?_,hnk2⟩,k2,k3⟩
 rcases k3 n hn with h | h
 ·exact a2 n h
 ·exact .inr (Nat.le_trans hF h)
theorem Grow.Zx6 {st0 s1:St} (hF:st0.nx≤s1.nx) (hw:s1.Wf) {v:AV} {l:List UInt8} {c:UInt8} (a:Grow st0 s1 v l) (hl:l.length<35184372088830):
  Jg (Ym 5 1 1 ⟨(s1.nx,.cells 5 false [.int .u8 (c.toNat:Int)])::s1.h,s1.nx+1⟩ v (.slice s1.nx 0 1 (.known 1))) fun v' s=>Grow st0 s v' (l++[c])∧Frm v.nms s1 s∧Xg v.nms s1 v':=by
 have xa:=Ext.new hw (.cells 5 false [.int .u8 (c.toNat:Int)])
 refine(Grow.app2 (Nat.le_trans hF xa.nx) xa.wf (m:=[c]) (a.ext xa hw) (.inr ⟨s1.nx,0,_,rfl,Mw (ty:=5) (l:=false) (by simp[Ze,u8s]) rfl⟩) (by simp;omega)).mono ?_
 rintro v2 s2 ⟨h1,h2,h3⟩
 exact⟨h1,(xa.fr v.nms).trans h2 (fun n h=> .inl h),fun n hn=>(h3 n hn).imp id (fun h=>by simp at h;omega)⟩
structure BV (ty off:Nat) (rest:List AV) (st0 s:St) (q:Nat) (v:AV) (l:List UInt8):Prop where
 ge:st0.nx≤q
 get:Zh s.h q=some (.cells ty false (v::rest))
 grow:Grow st0 s v l
 ap:q∉v.nms
theorem BV.bx {st0 s:St} {q:Nat} {v:AV} {l:List UInt8} (b:BV 35 0 [] st0 s q v l):Bx st0 s q l:=⟨b.ge,v,b.get,b.grow,b.ap⟩
theorem BV.Yo {ty off:Nat} {rest:List AV} {st0 s s':St} {q:Nat} {v:AV} {l:List UInt8} {S:List Nat} (b:BV ty off rest st0 s q v l) (f:Frm S s s') (hw:s.Wf) (h1:q∉S) (h2:∀n∈v.nms,n∉S):BV ty off rest st0 s' q v l:=
 ⟨b.ge,f.get hw b.get h1,b.grow.Yo f hw h2,b.ap⟩
theorem BV.ext {ty off:Nat} {rest:List AV} {st0 s s':St} {q:Nat} {v:AV} {l:List UInt8} (b:BV ty off rest st0 s q v l) (f:Ext s s') (hw:s.Wf):BV ty off rest st0 s' q v l:=b.Yo (f.fr []) hw (by simp) (by simp)
theorem BV.Zp {ty off:Nat} {rest:List AV} {st0 s:St} {q c:Nat} {v:AV} {l:List UInt8} (b:BV ty off rest st0 s q v l) (hw:s.Wf):BV ty off rest st0 ⟨Go.Ev.Zp c s.h,s.nx⟩ q v l:=
 ⟨b.ge,Qv hw b.get rfl,b.grow.Zp hw,b.ap⟩
theorem Grow.Zxy {st0 s:St} {v:AV} {l:List UInt8} (a:Grow st0 s v l):∀k n,v≠.int k n:=by
 rcases a.form with ⟨e,_⟩ | ⟨n,e,_⟩ <;> rw[e] <;> simp
theorem Grow.lt {st0 s:St} {v:AV} {l:List UInt8} (a:Grow st0 s v l) (hw:s.Wf):∀n∈v.nms,n<s.nx:=fun n hn=>by
 rcases a.nms hn with ⟨ty,h⟩ | h <;> exact hw.lt _ _ h
theorem Zaa1 (H:B.Jj T) {st0:St} (hx:Ext st0 st) {q:Nat} {vb:AV} {l m:List UInt8} {x:AV} (hm:Rd st.h x 1 m.length (u8s m)) (b:BV 35 0 [] st0 st q vb l) (hl:l.length+m.length<35184372088831):
  Jg (call T (.fn 222 [] [.ptr q 0]) [x] st) fun _ s'=>Ext st0 s'∧(∃vb',BV 35 0 [] st0 s' q vb' (l++m)∧Xg vb.nms st vb')∧∀n o,n≠q→n∉vb.nms→Zh st.h n=some o→Zh s'.h n=some o:=by
 refine S6 H.e H.f rfl rfl ?_
 simp[B.J3,go_sem,RO.run,Q8 b.get]
 refine(b.grow.app2 hx.nx hx.wf hm hl).mono ?_
 rintro v2 s2 ⟨o2,f2,m2⟩
 have x2:Ext st0 s2:=hx.Yo f2 b.grow.ge
 have g2:=f2.get hx.wf b.get b.ap
 have hw2:Z5 s2.h q 0 [v2]=some (Qi s2.h q (.cells 35 false [v2])):=Xo g2 o2.sc
 have f3:=Frm.set x2.wf g2 (o:= .cells 35 false [v2])
 have hq2:q∉v2.nms:=o2.apart g2 (x:=vb) (by simp) b.grow.Zxy
 have x3:=x2.Yo f3 (by simpa using b.ge)
 simp[go_sem,WO.run,o2.Kx,hw2]
 refine⟨x3.Qr hx.nx,⟨v2,BV.Zp ⟨b.ge,Zc g2,o2.Yo f3 x2.wf (by intro n hn h;simp at h;subst h;exact hq2 hn),hq2⟩ x3.wf,m2⟩,fun n o hn hv ho=> ?_⟩
 show Zh (Go.Ev.Zp st.nx _) n=_
 rw[Z2 (hx.wf.lt _ _ ho),Zl g2 (by omega)]
 exact f2.get hx.wf ho hv
def Gx (pt:List UInt8):Option (List UInt8):=
 if pt.length=1 then none else if pt.length=0 then some []
 else if v85 (pt++List.replicate (5 - pt.length) 117) 0<4294967296 then some ((Wn (v85 (pt++List.replicate (5 - pt.length) 117) 0)).take (pt.length - 1))else none
theorem Zsq {st0 sA:St} {e1:AV} {k:AV} {S:List Nat}:∀(j:Nat) (l:List UInt8) (v:AV) (e:Env) (s1:St),l.length+j=5→Ext st0 s1→Grow st0 s1 v l→Frm S sA s1→Xg S sA v→Zb e 1=e1→Zb e 5=k→Zb e 6=v→
  Res (run T (.loop B.Ug) e s1) fun x e' s'=>x= .exit 0∧Ext st0 s'∧Zb e' 1=e1∧Zb e' 5=k∧Grow st0 s' (Zb e' 6) (l++List.replicate j 117)∧Frm S sA s':=by
 intro j
 induction j with
 | zero=>
   intro l v e s1 hl hx hg hf hm g1 g5 g6
   rw[Zn]
   rcases hg.form with ⟨h1,h2⟩ | ⟨n,h1,h2,_⟩
   ·rw[h2]at hl;simp at hl
   ·have hll:l.length=5:=by omega
    rw[h1,hll]at g6
    rw[h1,hll]at hg
    simp[B.Ug,go_sem,g1,g5,g6,hx,hf,hg]
 | succ j ih=>
   intro l v e s1 hl hx hg hf hm g1 g5 g6
   have hp:=hg.Zx6 hx.nx hx.wf (c:=117) (by omega)
   rw[Zn]
   have hlen:=hg.1.rd.lenOf (ev:=AO.ev (Jh [1,5,6] e)) (x:= .t 6) (by simp[Jh,Zb,g1,g5,g6,AO.ev])
   have hl5:(l.length:Int)<5:=by omega
   have hl5':l.length<5:=by omega
   have ih2:=fun v' e' s'=>ih (l++[117]) v' e' s' (by simp;omega)
   rw[List.append_assoc]at ih2
   have hrep:[117]++List.replicate j (117:UInt8)=List.replicate (j+1) 117:=rfl
   rw[hrep]at ih2
   rcases hg.form with ⟨h1,h2⟩ | ⟨n,h1,h2,_⟩
   ·rw[h1]at g6 hp hm hg
    simp[B.Ug,go_sem,g1,g5,g6,NO.run,Y3]
    refine hp.mono ?_
    rintro v2 s2 ⟨o2,f2,m2⟩
    simp[go_sem,g1,g5]
    refine ih2 v2 _ s2 (hx.Yo f2 hg.ge) o2 (hf.trans f2 hm) (fun n hn=> ?_) (by simp[go_sem,g1]) (by simp[go_sem,g5]) (by simp[go_sem])
    rcases m2 n hn with h | h
    ·exact hm n h
    ·exact .inr (Nat.le_trans hf.nx h)
   ·rw[h1]at g6 hp hm hg
    simp[B.Ug,go_sem,g1,g5,g6,NO.run,Y3,hl5,hl5']
    refine hp.mono ?_
    rintro v2 s2 ⟨o2,f2,m2⟩
    simp[go_sem,g1,g5]
    refine ih2 v2 _ s2 (hx.Yo f2 hg.ge) o2 (hf.trans f2 hm) (fun n hn=> ?_) (by simp[go_sem,g1]) (by simp[go_sem,g5]) (by simp[go_sem])
    rcases m2 n hn with h | h
    ·exact hm n h
    ·exact .inr (Nat.le_trans hf.nx h)
theorem Zu8 (H:B.Gk T) (H1:B.Jj T) {st0:St} (hx:Ext st0 st) {p q:Nat} {vb vp:AV} {out pt:List UInt8} {last:AV} (b:BV 35 0 [] st0 st q vb out) (bp:BV 307 0 [last] st0 st p vp pt) (hpq:p≠q) (hpb:p∉vb.nms) (hqp:q∉vp.nms) (hd:∀n∈vb.nms,n∉vp.nms)
  (hpl:pt.length≤4) (hpc:∀c∈pt,33≤c.toNat) (ho:out.length≤1000000):
  Jg (call T (.fn 223 [] []) [.ptr p 0,.fn 222 [] [.ptr q 0]] st) fun v s'=>Ext st0 s'∧(∀m o,m≠p→m≠q→Zh st.h m=some o→Safe o→Zh s'.h m=some o)∧
   match Gx pt with
   | none=>v= .int .i64 2
   | some d=>v= .int .i64 1∧Bx st0 s' q (out++d):=by
 refine Q3 H.e H.f rfl ?_
 have r0:Zo st.h p 0=some vp:=by simp[Zo,bp.get]
 have ltd:∀m o,Zh st.h m=some o→m<st.nx:=fun m o ho=>hx.wf.lt _ _ ho
 have nS:∀{v:AV} {l:List UInt8},Grow st0 st v l→∀m o,Zh st.h m=some o→Safe o→m∉v.nms:=fun g m o ho hs h=>by
  rcases g.nms h with ⟨ty,k⟩ | k <;> rw[ho]at k <;> injection k with k
  ·exact hs.1 _ _ k
  ·exact hs.2 _ _ _ k
 obtain⟨C,hC⟩:∃C,C=Gx pt:=⟨_,rfl⟩
 rw[←hC]
 unfold Gx at hC
 rcases bp.grow.form with ⟨e1,e2⟩ | ⟨n,e1,hrd,hn0⟩
 ·subst e2
  subst e1
  simp at hC
  subst hC
  simp[B.Kf,go_sem,RO.run,r0]
  exact⟨hx.Qr hx.nx |> fun h=>h,fun m o hm hq ho hs=>by rw[Z2 (ltd m o ho)];exact ho,b.bx.Zp hx.wf⟩
 ·have hgp:=bp.grow
  rw[e1]at r0 hqp hd hgp
  obtain⟨k,hk⟩:∃k:Nat,k=pt.length:=⟨_,rfl⟩
  rw[←hk]at hC r0 hpl
  by_cases hk1:k=1
  ·rw[if_pos hk1]at hC
   subst hC
   subst hk1
   simp[B.Kf,go_sem,RO.run,r0]
   exact⟨hx.Qr hx.nx,fun m o hm hq ho hs=>by rw[Z2 (ltd m o ho)];exact ho⟩
  rw[if_neg hk1]at hC
  by_cases hk0:k=0
  ·rw[if_pos hk0]at hC
   subst hC
   subst hk0
   simp[B.Kf,go_sem,RO.run,r0]
   exact⟨hx.Qr hx.nx,fun m o hm hq ho hs=>by rw[Z2 (ltd m o ho)];exact ho,b.bx.Zp hx.wf⟩
  rw[if_neg hk0]at hC
  have k1:¬(k:Int)=1:=by omega
  have k2:(1:Int)<k:=by omega
  have k2':1<k:=by omega
  simp[B.Kf,go_sem,RO.run,r0,k1,hk1,k2,k2']
  have hFr:=Frm.refl hx.wf (S:=[n])
  refine(Zsq (sA:=st) (e1:= .fn 222 [] [.ptr q 0]) (k:= .int .i64 (k:Int)) (S:=[n]) (5 - k) pt (.slice n 0 pt.length .full) _ st (by omega) hx hgp hFr (fun m hm=>by simp[AV.nms]at hm;simp[hm]) (by simp[go_sem]) (by simp[go_sem]) (by simp[go_sem,hk])).mono ?_
  rintro x e s1 ⟨rfl,y1,g1,g5,hg6,f1⟩
  have hc5:∀c∈pt++List.replicate (5 - k) 117,33≤c.toNat:=by
   intro c hc
   rcases List.mem_append.1 hc with h | h
   ·exact hpc c h
   ·rw[(List.mem_replicate.1 h).2];decide
  have hl5:(pt++List.replicate (5 - k) (117:UInt8)).length=5:=by simp;omega
  generalize pt++List.replicate (5 - k) 117=P at*
  have hfo:∃n2,Zb e 6= .slice n2 0 P.length .full∧Z1 s1.h n2 0 P.length=some (u8s P):=by
   rcases hg6.form with ⟨_,h⟩ | ⟨n2,h1,h2,_⟩
   ·rw[h]at hl5;simp at hl5
   ·exact⟨n2,h1,h2⟩
  obtain⟨n2,g6,hrd2⟩:=hfo
  have b1:BV 35 0 [] st0 s1 q vb out:=b.Yo f1 hx.wf (by simpa [AV.nms] using hqp) (fun m hm=>by have:=hd m hm;simpa [AV.nms] using this)
  have keep1:∀m o,m≠p→m≠q→Zh st.h m=some o→Safe o→Zh s1.h m=some o∧m∉vb.nms:=fun m o hm hq ho hs=>by
   have h1:=nS hgp m o ho hs
   exact⟨f1.get hx.wf ho (by simpa [AV.nms] using h1),nS b.grow m o ho hs⟩
  simp[go_sem,g1,g5,g6]
  refine(Zjb H.Nc y1.wf (by omega) hc5 hrd2).use fun s2 x2=> ?_
  have y2:=y1.trans x2
  have b2:=b1.ext x2 y1.wf
  have x3:=Ext.new y2.wf (.cells 318 false (u8s (Wn (v85 P 0))))
  have y3:=y2.trans x3
  have b3:=b2.ext x3 y2.wf
  by_cases hok:v85 P 0<4294967296
  ·rw[if_pos hok]at hC
   subst hC
   have hj:IntKind.i64.wrap ((k:Int) - 1)=((k - 1:Nat):Int):=by rw[Zf (by omega) (by omega)];omega
   have hlm:((Wn (v85 P 0)).take (k - 1)).length=k - 1:=by simp[Wn];omega
   have hem:=fun cp=>Zaa1 H1 y3 (m:=(Wn (v85 P 0)).take (k - 1)) (x:= .slice s2.nx 0 (k - 1) cp) (.inr ⟨s2.nx,0,cp,by rw[hlm],by
    rw[hlm,Nat.mul_one]
    have h4:=Zus (h:=(s2.nx,Z7.cells 318 false (u8s (Wn (v85 P 0))))::s2.h) (n:=s2.nx) (ty:=318) (k:=k - 1) (o:=0) (l:=false) (cs:=u8s (Wn (v85 P 0))) (by simp[Ze]) (by simp[u8s,Wn];omega)
    rw[h4]
    simp[u8s,List.map_take]⟩) b3 (by rw[hlm];omega)
   have hj0:(0:Int)≤((k - 1:Nat):Int):=by omega
   have hj4:((k - 1:Nat):Int)≤4:=by omega
   obtain⟨j,hjj⟩:∃j,j=k - 1:=⟨_,rfl⟩
   rw[←hjj]at hj hem hj0 hj4 hlm⊢
   have hj4':j≤4:=by omega
   have nP:st.nx≤s2.nx:=by have:=f1.nx;have:=x2.nx;omega
   simp only[Wn,u8s,List.map_cons,List.map_nil]at hem⊢
   generalize UInt8.ofNat (v85 P 0 / 16777216)=A at*
   generalize UInt8.ofNat (v85 P 0 / 65536)=B at*
   generalize UInt8.ofNat (v85 P 0 / 256)=C at*
   generalize UInt8.ofNat (v85 P 0)=D at*
   have hsa:Pe 1 s2.nx 0 4 (.known 4) none (some (.int .i64 (j:Int))) none=some (.slice s2.nx 0 j (.known 4)):=by rw[Sx (len:=4) hj0 hj4 (by decide)];simp
   simp[go_sem,NO.run,WO.run,RO.run,Z5,Ze,Jv,K0,hok,hj,hsa]
   refine(hem (.known 4)).mono ?_
   rintro _ s3 ⟨y4,⟨vb',b4,_⟩,k4⟩
   simp[go_sem]
   refine⟨y4.Qr hx.nx,fun m o hm hq ho hs=> ?_,b4.bx.Zp y4.wf⟩
   rw[Z2 (ltd m o ho)]
   obtain⟨z1,z2⟩:=keep1 m o hm hq ho hs
   exact k4 m o hq z2 ((Ext.new y2.wf _).get y2.wf (x2.get y1.wf z1))
  ·rw[if_neg hok]at hC
   subst hC
   simp only[Wn,u8s,List.map_cons,List.map_nil]at y3
   simp[go_sem,NO.run,WO.run,RO.run,Wn,u8s,Z5,Ze,Jv,K0,hok]
   refine⟨y3.Qr hx.nx,fun m o hm hq ho hs=> ?_⟩
   rw[Z2 (ltd m o ho)]
   obtain⟨z1,z2⟩:=keep1 m o hm hq ho hs
   exact x3.get y2.wf (x2.get y1.wf z1)
end Go.Ev

/- ascii.Unbase85 told. -/
namespace Go.Ev
open Go
variable {T : Tab} {st : St}
abbrev TX:=List UInt8×List UInt8×Bool
def Zpm (o pt:List UInt8):Option (Bool×TX):=
 if pt.length=5 then if v85 pt 0<4294967296 then some (false,(o++Wn (v85 pt 0),[],false))else none else some (false,(o,pt,false))
def Ji (x:TX) (c:UInt8):Option (Bool×TX):=
 if x.2.2=true then if c=62 then(Gx x.2.1).map fun d=>(true,(x.1++d,[],true))else none
 else if c=126 then some (false,(x.1,x.2.1,true))
 else if c=122 then if x.2.1.length=0 then some (false,(x.1++[0,0,0,0],[],false))else none
 else if c.toNat<33∨117<c.toNat then none
 else Zpm x.1 (x.2.1++[c])
def Zil (x:TX):List UInt8:=x.1
structure TI (st0:St) (p q:Nat) (x:TX) (s:St) (vb vp:AV):Prop where
 ext:Ext st0 s
 b:BV 35 0 [] st0 s q vb x.1
 bp:BV 307 0 [.bool x.2.2] st0 s p vp x.2.1
 pq:p≠q
 pb:p∉vb.nms
 qp:q∉vp.nms
 d:∀n∈vb.nms,n∉vp.nms
 pl:x.2.1.length≤5
 pc:∀c∈x.2.1,33≤c.toNat
def Zry (st0:St) (p q:Nat) (x:TX) (s:St):Prop:=x.2.1.length≤4∧∃vb vp,TI st0 p q x s vb vp
theorem Ze1 (n:Nat):(Wn n).length=4:=rfl
theorem Zsp {pt d:List UInt8} (h:Gx pt=some d):d.length≤4:=by
 unfold Gx at h
 split at h
 ·cases h
 ·split at h
  ·injection h with h;subst h;simp
  ·split at h
   ·injection h with h;subst h;rw[List.length_take,Ze1];omega
   ·cases h
theorem wr_p {h:Heap} {p:Nat} {a b:AV} (g:Zh h p=some (.cells 307 false [a,b])) (x:AV) (hx:x.sc=true):Z5 h p 0 [x]=some (Qi h p (.cells 307 false [x,b])):=by
 rw[Y8 g hx (by simp)];rfl
theorem TI.loc {st0 s:St} {p q:Nat} {x:TX} {vb vp:AV} (a:TI st0 p q x s vb vp) {c:Nat} (hc:st0.nx≤c):TI st0 p q x ⟨Zp c s.h,s.nx⟩ vb vp:=
 ⟨a.ext.Qr hc,a.b.Zp a.ext.wf,a.bp.Zp a.ext.wf,a.pq,a.pb,a.qp,a.d,a.pl,a.pc⟩
theorem TI.up {st0 s s':St} {p q:Nat} {x:TX} {vb vp:AV} (a:TI st0 p q x s vb vp) (f:Ext s s'):TI st0 p q x s' vb vp:=
 ⟨a.ext.trans f,a.b.ext f a.ext.wf,a.bp.ext f a.ext.wf,a.pq,a.pb,a.qp,a.d,a.pl,a.pc⟩
theorem TI.safe {st0 s:St} {p q:Nat} {x:TX} {vb vp:AV} (a:TI st0 p q x s vb vp) {m:Nat} {o:Z7} (ho:Zh s.h m=some o) (hs:Safe o):m∉vb.nms∧m∉vp.nms:=by
 refine⟨fun h=> ?_,fun h=> ?_⟩
 ·rcases a.b.grow.nms h with ⟨ty,k⟩ | k <;> rw[ho]at k <;> injection k with k
  ·exact hs.1 _ _ k
  ·exact hs.2 _ _ _ k
 ·rcases a.bp.grow.nms h with ⟨ty,k⟩ | k <;> rw[ho]at k <;> injection k with k
  ·exact hs.1 _ _ k
  ·exact hs.2 _ _ _ k
theorem TI.emit (H1:B.Jj T) {st0 s:St} {p q:Nat} {x:TX} {vb vp:AV} (a:TI st0 p q x s vb vp) {m:List UInt8} (hm:m.length=4) (ho:x.1.length≤1000000) {n:Nat} {ty:Nat} {cp:Cap} (hn:Zh s.h n=some (.cells ty false (u8s m))):
  Jg (call T (.fn 222 [] [.ptr q 0]) [.slice n 0 4 cp] s) fun _ s'=>(∃vb',TI st0 p q (x.1++m,x.2) s' vb' vp)∧∀k o,k≠q→k∉vb.nms→Zh s.h k=some o→Zh s'.h k=some o:=by
 have hrd:Rd s.h (.slice n 0 4 cp) 1 m.length (u8s m):= .inr ⟨n,0,cp,by rw[hm],by rw[hm];exact Mw hn (by rw[Re,hm])⟩
 refine(Zaa1 H1 a.ext hrd a.b (by omega)).mono ?_
 rintro _ s' ⟨y,⟨vb',b',mi⟩,k⟩
 refine⟨⟨vb',y,b',⟨a.bp.ge,k p _ a.pq a.pb a.bp.get,?_,a.bp.ap⟩,a.pq,?_,a.qp,?_,a.pl,a.pc⟩,k⟩
 ·
  obtain⟨⟨n1,h1⟩,h2,h3⟩:=a.bp.grow
  refine⟨⟨n1,?_⟩,h2,h3⟩
  rcases h1 with ⟨e1,e2,e3⟩ | ⟨e1,e2,e3⟩ | ⟨ty',e1,e2,e3⟩
  ·exact .nil e1 e2 e3
  ·have hnp:n1∈vp.nms:=by rw[e1];simp[AV.nms]
   exact .buf e1 (k n1 _ (fun e=>a.qp (e▸hnp)) (fun e=>a.d n1 e hnp) e2) e3
  ·exact absurd e1 (h3 _ _ _ _)
 ·intro h
  rcases mi p h with h | h
  ·exact a.pb h
  ·have:=a.ext.wf.lt _ _ a.bp.get;omega
 ·intro n hn hn2
  rcases mi n hn with h | h
  ·exact a.d n h hn2
  ·have:=a.bp.grow.lt a.ext.wf n hn2;omega
theorem TI.push {st0 s:St} {p q:Nat} {o pt:List UInt8} {vb vp:AV} (a:TI st0 p q (o,pt,false) s vb vp) (h4:pt.length≤4) {c:UInt8} (hc:33≤c.toNat):
  Jg (Ym 5 1 1 ⟨(s.nx,.cells 5 false [.int .u8 (c.toNat:Int)])::s.h,s.nx+1⟩ vp (.slice s.nx 0 1 (.known 1))) fun v2 s2=>Kx v2=[v2]∧∃h',Z5 s2.h p 0 [v2]=some h'∧TI st0 p q (o,pt++[c],false) ⟨h',s2.nx⟩ vb v2∧
   ∀m o,m≠p→Zh s.h m=some o→Safe o→Zh h' m=some o:=by
 refine(a.bp.grow.Zx6 a.ext.nx a.ext.wf (c:=c) (by show pt.length<_;omega)).mono ?_
 rintro v2 s2 ⟨g2,f2,m2⟩
 have y2:=a.ext.Yo f2 a.bp.grow.ge
 have hp2:=f2.get a.ext.wf a.bp.get a.bp.ap
 have b2:=a.b.Yo f2 a.ext.wf a.qp a.d
 have hpv:p∉v2.nms:=g2.apart hp2 (x:= .bool false) (by simp) (by simp)
 have hqv:q∉v2.nms:=g2.apart b2.get (x:=vb) (by simp) b2.grow.Zxy
 have fs:=Frm.set y2.wf hp2 (o:= .cells 307 false [v2,.bool false])
 refine⟨g2.Kx,_,wr_p hp2 v2 g2.sc,⟨y2.Qh hp2 a.bp.ge,b2.Yo fs y2.wf (by simpa using Ne.symm a.pq) (fun n hn=>by simp;rintro rfl;exact a.pb hn),⟨a.bp.ge,Zc hp2,g2.Yo fs y2.wf (fun n hn=>by simp;rintro rfl;exact hpv hn),hpv⟩,a.pq,a.pb,hqv,?_,by simp;omega,?_⟩,?_⟩
 ·intro n hn hn2
  rcases m2 n hn2 with h | h
  ·exact a.d n hn h
  ·have:=a.b.grow.lt a.ext.wf n hn;omega
 ·intro d hd
  rcases List.mem_append.1 hd with h | h
  ·exact a.pc d h
  ·simp at h;subst h;exact hc
 ·intro m o hm ho hs
  rw[Zl hp2 (by omega)]
  exact f2.get a.ext.wf ho (a.safe ho hs).2
theorem Zaan (H:B.Hg T) (H1:B.Jj T) {st0:St} {p q:Nat}:Dec T st0 p q 217 222 (Zry st0 p q) Zil Ji where
 ext:=fun x s ⟨_,vb,vp,h⟩=>h.ext
 bx:=fun x s ⟨_,vb,vp,h⟩=>h.b.bx
 Yo:=fun x s s' S ⟨h4,vb,vp,h⟩ f hS=>by
  have hn:∀v:AV,∀l:List UInt8,Grow st0 s v l→∀n∈v.nms,n∉S:=fun v l g n hn hm=>by
   obtain⟨_,_,_,h2⟩:=hS n hm
   rcases g.nms hn with ⟨ty,k⟩ | k
   ·exact(h2 _ k).1 _ _ rfl
   ·exact(h2 _ k).2 _ _ _ rfl
  exact⟨h4,vb,vp,h.ext.Yo f (fun m hm=>(hS m hm).1),h.b.Yo f h.ext.wf (fun hm=>(hS q hm).2.2.1 rfl) (hn _ _ h.b.grow),h.bp.Yo f h.ext.wf (fun hm=>(hS p hm).2.1 rfl) (hn _ _ h.bp.grow),h.pq,h.pb,h.qp,h.d,h.pl,h.pc⟩
 loc:=fun x s c hc ⟨h4,vb,vp,h⟩=>⟨h4,vb,vp,h.loc hc⟩
 len:=by
  intro x c b x' h
  obtain⟨o,pt,last⟩:=x
  unfold Ji at h
  simp only[Zil]
  split at h
  ·split at h
   ·cases hc:Gx pt with
    | none=>simp[hc]at h
    | some d=>
      have:=Zsp hc
      simp[hc]at h
      rw[←h.2]
      simp only[List.length_append]
      omega
   ·cases h
  ·split at h
   ·simp at h;rw[←h.2];simp
   ·split at h
    ·split at h
     ·simp at h;rw[←h.2];simp
     ·cases h
    ·split at h
     ·cases h
     ·unfold Zpm at h
      split at h
      ·split at h
       ·simp at h;rw[←h.2];simp only[List.length_append,Ze1];omega
       ·cases h
      ·simp at h;rw[←h.2];simp
 take:=by
  rintro⟨o,pt,last⟩ s c ⟨h4,vb,vp,a⟩ hlen
  simp only at h4
  simp only[Zil]at hlen
  have r0:Zo s.h p 0=some vp:=by simp[Zo,a.bp.get]
  have r1:Zo s.h p 1=some (.bool last):=by simp[Zo,a.bp.get]
  have ltd:∀m o,Zh s.h m=some o→m<s.nx:=fun m o ho=>a.ext.wf.lt _ _ ho
  have c62:((c.toNat:Int)=62)↔c=62:=by rw[←UInt8.toNat_inj];simp;omega
  have c126:((c.toNat:Int)=126)↔c=126:=by rw[←UInt8.toNat_inj];simp;omega
  have c122:((c.toNat:Int)=122)↔c=122:=by rw[←UInt8.toNat_inj];simp;omega
  have hn0:=a.ext.nx
  obtain⟨O,hO⟩:∃O,O=Ji (o,pt,last) c:=⟨_,rfl⟩
  rw[←hO]
  unfold Ji at hO
  refine Q3 H.e H.f rfl ?_
  cases last with
  | true=>
    simp only[if_true]at hO
    by_cases hc:c=62
    ·rw[if_pos hc]at hO
     have hcl:=Zu8 H.Kf H1 a.ext a.b a.bp a.pq a.pb a.qp a.d h4 a.pc hlen
     simp[B.Q5,go_sem,RO.run,r1,c62,hc]
     refine hcl.mono ?_
     rintro v s2 ⟨y,k,hcase⟩
     have kk:∀m o,¬m=p→¬m=q→Zh s.h m=some o→Safe o→Zh (Zp s.nx s2.h) m=some o:=fun m o hm hq ho hs=>by
      rw[Z2 (ltd m o ho)];exact k m o hm hq ho hs
     cases hcf:Gx pt with
     | none=>
       rw[hcf]at hcase hO
       simp at hO
       subst hO
       subst hcase
       simp[go_sem]
       exact⟨y.Qr hn0,kk⟩
     | some d=>
       rw[hcf]at hcase hO
       simp at hO
       subst hO
       obtain⟨rfl,hB⟩:=hcase
       simp[go_sem]
       exact⟨y.Qr hn0,kk,hB.Zp y.wf⟩
    ·rw[if_neg hc]at hO
     subst hO
     simp[B.Q5,go_sem,RO.run,r1,c62,hc]
     exact⟨a.ext.Qr hn0,fun m o hm hq ho hs=>by rw[Z2 (ltd m o ho)];exact ho⟩
  | false=>
    simp only[Bool.false_eq_true,if_false]at hO
    by_cases hc:c=126
    ·rw[if_pos hc]at hO
     subst hO
     have hw:Z5 s.h p 1 [.bool true]=some (Qi s.h p (.cells 307 false [vp,.bool true])):=Y8 a.bp.get rfl (by simp)
     have f:=Frm.set a.ext.wf a.bp.get (o:= .cells 307 false [vp,.bool true])
     have y:=a.ext.Qh a.bp.get (o:= .cells 307 false [vp,.bool true]) a.bp.ge
     simp[B.Q5,go_sem,RO.run,WO.run,r1,c126,hc,hw]
     have ti:TI st0 p q (o,pt,true) ⟨Qi s.h p (.cells 307 false [vp,.bool true]),s.nx⟩ vb vp:=
      ⟨y,a.b.Yo f a.ext.wf (by simpa using Ne.symm a.pq) (fun n hn=>by simp;rintro rfl;exact a.pb hn),⟨a.bp.ge,Zc a.bp.get,a.bp.grow.Yo f a.ext.wf (fun n hn=>by simp;rintro rfl;exact a.bp.ap hn),a.bp.ap⟩,a.pq,a.pb,a.qp,a.d,a.pl,a.pc⟩
     exact⟨y.Qr hn0,fun m o hm hq ho hs=>by rw[Z2 (ltd m o ho),Zl a.bp.get (by omega)];exact ho,h4,vb,vp,ti.loc hn0⟩
    rw[if_neg hc]at hO
    by_cases hz:c=122
    ·rw[if_pos hz]at hO
     by_cases hp0:pt.length=0
     ·rw[if_pos hp0]at hO
      have hpt:pt=[]:=List.length_eq_zero_iff.1 hp0
      subst hpt
      subst hO
      have vp0:vp= .Zk∨∃n,vp= .slice n 0 0 .full:=by
       rcases a.bp.grow.form with ⟨e,_⟩ | ⟨n,e,_⟩
       ·exact .inl e
       ·exact .inr ⟨n,e⟩
      have xa:=Ext.new a.ext.wf (.cells 5 false (u8s [0,0,0,0]))
      have hem:=TI.emit H1 (a.up xa) (m:=[0,0,0,0]) rfl hlen (n:=s.nx) (ty:=5) (cp:= .known 4) (by simp[Ze])
      simp only[u8s,List.map_cons,List.map_nil]at hem
      have fin:∀s2,((∃vb',TI st0 p q (o++[0,0,0,0],[],false) s2 vb' vp)∧∀k o,k≠q→k∉vb.nms→Zh ((s.nx,.cells 5 false [.int .u8 ((0:UInt8).toNat:Int),.int .u8 ((0:UInt8).toNat:Int),.int .u8 ((0:UInt8).toNat:Int),.int .u8 ((0:UInt8).toNat:Int)])::s.h) k=some o→Zh s2.h k=some o)→
        Ext st0 ⟨Zp s.nx s2.h,s2.nx⟩∧(∀m o,¬m=p→¬m=q→Zh s.h m=some o→Safe o→Zh (Zp s.nx s2.h) m=some o)∧Zry st0 p q (o++[0,0,0,0],[],false) ⟨Zp s.nx s2.h,s2.nx⟩:=by
       rintro s2 ⟨⟨vb',t⟩,k⟩
       refine⟨t.ext.Qr hn0,fun m o hm hq ho hs=> ?_,by simp,vb',vp,t.loc hn0⟩
       rw[Z2 (ltd m o ho)]
       exact k m o hq (a.safe ho hs).1 ((Ext.new a.ext.wf _).get a.ext.wf ho)
      rcases vp0 with e | ⟨n,e⟩
      ·rw[e]at r0
       simp[B.Q5,go_sem,RO.run,NO.run,r0,r1,c126,c122,hc,hz,Y3]
       refine hem.mono ?_
       rintro _ s2 h
       simp[go_sem]
       exact fin s2 h
      ·rw[e]at r0
       simp[B.Q5,go_sem,RO.run,NO.run,r0,r1,c126,c122,hc,hz,Y3]
       refine hem.mono ?_
       rintro _ s2 h
       simp[go_sem]
       exact fin s2 h
     ·rw[if_neg hp0]at hO
      subst hO
      rcases a.bp.grow.form with ⟨e,e2⟩ | ⟨n,e,_⟩
      ·simp only at e2;rw[e2]at hp0;simp at hp0
      ·rw[e]at r0
       simp only at r0
       simp[B.Q5,go_sem,RO.run,r0,r1,c126,c122,hc,hz,show (0:Int)<pt.length by omega,show 0<pt.length by omega]
       exact⟨a.ext.Qr hn0,fun m o hm hq ho hs=>by rw[Z2 (ltd m o ho)];exact ho⟩
    rw[if_neg hz]at hO
    by_cases hbd:c.toNat<33∨117<c.toNat
    ·rw[if_pos hbd]at hO
     subst hO
     by_cases h33:c.toNat<33
     ·simp[B.Q5,go_sem,RO.run,r1,c126,c122,hc,hz,h33,show (c.toNat:Int)<33 by omega]
      exact⟨a.ext.Qr hn0,fun m o hm hq ho hs=>by rw[Z2 (ltd m o ho)];exact ho⟩
     ·simp[B.Q5,go_sem,RO.run,r1,c126,c122,hc,hz,h33,show¬(c.toNat:Int)<33 by omega,show (117:Int)<c.toNat by omega,show 117<c.toNat by omega]
      exact⟨a.ext.Qr hn0,fun m o hm hq ho hs=>by rw[Z2 (ltd m o ho)];exact ho⟩
    rw[if_neg hbd]at hO
    have h33:¬c.toNat<33:=fun h=>hbd (.inl h)
    have h117:¬117<c.toNat:=fun h=>hbd (.inr h)
    have hpush:=a.push h4 (c:=c) (by omega)
    unfold Zpm at hO
    have hl5:(pt++[c]).length≤5:=by simp;omega
    obtain⟨P,hP⟩:∃P,P=pt++[c]:=⟨_,rfl⟩
    rw[←hP]at hO hpush hl5
    have hP0:P.length≠0:=by rw[hP];simp
    simp[B.Q5,go_sem,RO.run,NO.run,r0,r1,c126,c122,hc,hz,h33,h117,show¬(c.toNat:Int)<33 by omega,show¬(117:Int)<c.toNat by omega,Y3]
    refine hpush.mono ?_
    rintro v2 s2 ⟨ha,h',hw,t,k⟩
    have q0:Zo h' p 0=some v2:=by simp[Zo,t.bp.get]
    rcases t.bp.grow.form with ⟨e,e2⟩ | ⟨n,e,hrd,_⟩
    ·simp only at e2;rw[e2]at hP0;simp at hP0
    replace e:v2= .slice n 0 P.length .full:=e
    replace hrd:Z1 h' n 0 P.length=some (u8s P):=hrd
    rw[e]at q0
    have fin:∀(s3:St) (x':TX) (vb' vp':AV),TI st0 p q x' s3 vb' vp'→x'.2.1.length≤4→(∀m o,m≠p→m≠q→Zh s.h m=some o→Safe o→Zh s3.h m=some o)→
      Ext st0 ⟨Zp s.nx s3.h,s3.nx⟩∧(∀m o,¬m=p→¬m=q→Zh s.h m=some o→Safe o→Zh (Zp s.nx s3.h) m=some o)∧Zry st0 p q x' ⟨Zp s.nx s3.h,s3.nx⟩:=by
     intro s3 x' vb' vp' t3 hl k3
     exact⟨t3.ext.Qr hn0,fun m o hm hq ho hs=>by rw[Z2 (ltd m o ho)];exact k3 m o hm hq ho hs,hl,vb',vp',t3.loc hn0⟩
    by_cases h5:P.length=5
    ·rw[if_pos h5]at hO
     have h5':(P.length:Int)=5:=by omega
     rw[e]at hw ha
     rw[h5]at q0 hrd hw ha
     have hfold:=fun(st':St) hw' hr'=>Zjb (st:=st') H.Nc hw' (l:=P) (by omega) t.pc (n:=n) (cp:= .full) hr'
     rw[h5]at hfold
     subst e
     rw[h5]
     simp[go_sem,WO.run,RO.run,ha,hw,q0]
     refine(hfold _ t.ext.wf hrd).use fun s3 x3=> ?_
     have t3:=t.up x3
     have x4:=Ext.new t3.ext.wf (.cells 318 false (u8s (Wn (v85 P 0))))
     have t4:=t3.up x4
     have k3:∀m o,m≠p→m≠q→Zh s.h m=some o→Safe o→Zh s3.h m=some o:=fun m o hm hq ho hs=>x3.get t.ext.wf (k m o hm ho hs)
     have k4:∀m o,m≠p→m≠q→Zh s.h m=some o→Safe o→Zh ((s3.nx,Z7.cells 318 false (u8s (Wn (v85 P 0))))::s3.h) m=some o:=fun m o hm hq ho hs=>x4.get t3.ext.wf (k3 m o hm hq ho hs)
     by_cases hok:v85 P 0<4294967296
     ·rw[if_pos hok]at hO
      have hem:=TI.emit H1 t4 (m:=Wn (v85 P 0)) rfl hlen (n:=s3.nx) (ty:=318) (cp:= .known 4) (by simp[Ze])
      simp only[Wn,u8s,List.map_cons,List.map_nil]at hem x4 k4
      have hsa:Pe 1 s3.nx 0 4 (.known 4) none none none=some (.slice s3.nx 0 4 (.known 4)):=by simp[Pe,Ho,Zfb,Bs,bnd,Hn]
      have keep5:∀(vb':AV) (s4:St),(∀k1 o1,k1≠q→k1∉vb.nms→Zh ((s3.nx,Z7.cells 318 false [.int .u8 ((UInt8.ofNat (v85 P 0 / 16777216)).toNat:Int),.int .u8 ((UInt8.ofNat (v85 P 0 / 65536)).toNat:Int),.int .u8 ((UInt8.ofNat (v85 P 0 / 256)).toNat:Int),.int .u8 ((UInt8.ofNat (v85 P 0)).toNat:Int)])::s3.h) k1=some o1→Zh s4.h k1=some o1)→
        ∀m o,m≠p→m≠q→Zh s.h m=some o→Safe o→Zh s4.h m=some o:=fun vb' s4 kk m o hm hq ho hs=>
       kk m o hq (a.safe ho hs).1 (k4 m o hm hq ho hs)
      have last:∀(s4:St) (vb':AV),TI st0 p q (o++Wn (v85 P 0),P,false) s4 vb' (.slice n 0 5 .full)→(∀m o,m≠p→m≠q→Zh s.h m=some o→Safe o→Zh s4.h m=some o)→∃h5,Z5 s4.h p 0 [.Zk]=some h5∧
        Ext st0 ⟨Zp s.nx h5,s4.nx⟩∧(∀m o,¬m=p→¬m=q→Zh s.h m=some o→Safe o→Zh (Zp s.nx h5) m=some o)∧Zry st0 p q (o++Wn (v85 P 0),[],false) ⟨Zp s.nx h5,s4.nx⟩:=by
       intro s4 vb' t5 k5
       have fs:=Frm.set t5.ext.wf t5.bp.get (o:= .cells 307 false [.Zk,.bool false])
       have y5:=t5.ext.Qh t5.bp.get (o:= .cells 307 false [.Zk,.bool false]) t5.bp.ge
       refine⟨_,wr_p t5.bp.get .Zk rfl,?_⟩
       refine fin ⟨_,s4.nx⟩ (o++Wn (v85 P 0),[],false) vb' .Zk ⟨y5,t5.b.Yo fs t5.ext.wf (by simpa using Ne.symm t5.pq) (fun n hn=>by simp;rintro rfl;exact t5.pb hn),⟨t5.bp.ge,Zc t5.bp.get,Grow.nil _ _,by simp[AV.nms]⟩,t5.pq,t5.pb,by simp[AV.nms],by simp[AV.nms],by simp,by simp⟩ (by simp) ?_
       intro m o hm hq ho hs
       show Zh (Qi s4.h p _) m=_
       rw[Zl t5.bp.get (by omega)]
       exact k5 m o hm hq ho hs
      subst hO
      simp only[Wn]at last⊢
      generalize UInt8.ofNat (v85 P 0 / 16777216)=A at*
      generalize UInt8.ofNat (v85 P 0 / 65536)=B at*
      generalize UInt8.ofNat (v85 P 0 / 256)=C at*
      generalize UInt8.ofNat (v85 P 0)=D at*
      simp[go_sem,NO.run,WO.run,RO.run,u8s,Z5,Ze,Jv,K0,hok,hsa]
      refine hem.mono ?_
      rintro _ s4 ⟨⟨vb',t5⟩,kk⟩
      rw[h5]at t5
      obtain⟨h6,hw6,done⟩:=last s4 vb' t5 (keep5 vb' s4 kk)
      simp[go_sem,WO.run,hw6]
      exact done
     ·rw[if_neg hok]at hO
      subst hO
      have hxx:=t4.ext
      simp only[Wn,u8s,List.map_cons,List.map_nil]at hxx k4
      simp[go_sem,NO.run,WO.run,Wn,u8s,Z5,Ze,Jv,K0,hok]
      exact⟨hxx.Qr hn0,fun m o hm hq ho hs=>by rw[Z2 (ltd m o ho)];exact k4 m o hm hq ho hs⟩
    ·rw[if_neg h5]at hO
     subst hO
     have h5':¬(P.length:Int)=5:=by omega
     subst e
     simp[go_sem,WO.run,RO.run,ha,hw,q0,h5,h5']
     exact fin ⟨h',s2.nx⟩ _ vb _ t (by simp only;omega) (fun m o hm hq ho hs=>k m o hm ho hs)
end Go.Ev
