/- What a decoder reads: over any step. -/
import Derived.Test.YtdlhjfmakdbmkaaGreatDoorP05
import Derived.Test.YtdlhjfmakdbmkaaGreatDoorP04
import Derived.Lib.Small
import Derived.Lib.Strings
import Derived.Lib.Case
set_option linter.unusedSimpArgs false
set_option linter.unusedVariables false
set_option linter.unusedSectionVars false
namespace Go.Ev
open Go
variable {T : Tab} {st : St}
def runD {σ:Type} (stepF:σ→UInt8→Option (Bool×σ)):σ→List UInt8→Nat→Option (σ×Nat)
 | _,[],_=>none
 | x,c::r,i=>if blankC c=true then runD stepF x r (i+1)else match stepF x c with
   | none=>none
   | some (true,x')=>some (x',i+1)
   | some (false,x')=>runD stepF x' r (i+1)
def readT {σ:Type} (stepF:σ→UInt8→Option (Bool×σ)) (out:σ→List UInt8) (x0:σ) (s:List UInt8):List UInt8×Nat×Int:=
 if 65536<s.length then([],0,3)else match runD stepF x0 s 0 with
  | none=>([],0,5)
  | some (x,n)=>if 65536<(out x).length then([],0,3)else(out x,n,0)
end Go.Ev

/- What a decoder reads, told. -/
namespace Go.Ev
open Go
variable {T : Tab} {st : St}
end Go.Ev

/- ascii.Unhex told. -/
namespace Go.Ev
open Go
variable {T : Tab} {st : St}
end Go.Ev

/- What a decoder of base 85 reads, told: the same as for digits. -/
namespace Go.Ev
open Go
variable {T : Tab} {st : St}
end Go.Ev

/- Numbers in base 85. -/
namespace Go.Ev
open Go
variable {T : Tab} {st : St}
def d85 (n:Nat) (c:UInt8):Nat:=n*85+(c.toNat - 33)
def v85:List UInt8→Nat→Nat
 | [],n=>n
 | c::r,n=>v85 r (d85 n c)
def oct4 (n:Nat):List UInt8:=[UInt8.ofNat (n / 16777216),UInt8.ofNat (n / 65536),UInt8.ofNat (n / 256),UInt8.ofNat n]
theorem wrapu64 {n:Int} (h0:0≤n) (h1:n<18446744073709551616):IntKind.u64.wrap n=n:=by
 simp[IntKind.wrap,IntKind.signed,IntKind.bits];omega
theorem ishr_u64 {a b:Nat} (hb:b≤64):ishr .u64 (a:Int) (b:Int)=((a / 2 ^ b:Nat):Int):=by
 rw[ishr_nat (by omega) hb];push_cast;rfl
end Go.Ev

/- ascii.Unbase85: its steps. -/
namespace Go.Ev
open Go
variable {T : Tab} {st : St}
def closeF (pt:List UInt8):Option (List UInt8):=
 if pt.length=1 then none else if pt.length=0 then some []
 else if v85 (pt++List.replicate (5 - pt.length) 117) 0<4294967296 then some ((oct4 (v85 (pt++List.replicate (5 - pt.length) 117) 0)).take (pt.length - 1))else none
end Go.Ev

/- ascii.Unbase85 told. -/
namespace Go.Ev
open Go
variable {T : Tab} {st : St}
abbrev TX:=List UInt8×List UInt8×Bool
def charS (o pt:List UInt8):Option (Bool×TX):=
 if pt.length=5 then if v85 pt 0<4294967296 then some (false,(o++oct4 (v85 pt 0),[],false))else none else some (false,(o,pt,false))
def tensStep (x:TX) (c:UInt8):Option (Bool×TX):=
 if x.2.2=true then if c=62 then(closeF x.2.1).map fun d=>(true,(x.1++d,[],true))else none
 else if c=126 then some (false,(x.1,x.2.1,true))
 else if c=122 then if x.2.1.length=0 then some (false,(x.1++[0,0,0,0],[],false))else none
 else if c.toNat<33∨117<c.toNat then none
 else charS x.1 (x.2.1++[c])
def tensOut (x:TX):List UInt8:=x.1
end Go.Ev

/- Unbase85 told; parts of the reference's. -/
namespace Go.Ev
open Go
variable {T : Tab} {st : St}
def b85T (s:List UInt8):List UInt8×Nat×Int:=readT tensStep tensOut ([],[],false) s
end Go.Ev

/- The reference's Unbase85 told. -/
namespace Go.Ev
open Go
variable {T : Tab} {st : St}
end Go.Ev

/- The readers of the scanner. -/
namespace Go.Ev
open Go
variable {T : Tab} {st : St}
def quotedR (s:List UInt8):T3:=if(unquoteT s).2.2=0 then textK 6 (unquoteT s).1 (unquoteT s).2.1 else if(unquoteT s).2.2=26 then err3 26 else err3 37
def decoR (front:Nat) (u:List UInt8×Nat×Int):T3:=if u.2.2=0 then textK 6 u.1 (front+u.2.1)else if u.2.2=3 then err3 26 else err3 37
def lessR (R:List UInt8):T3:=if R.head? =some 60 then textK 3 [60,60] 2 else if R.head? =some 126 then decoR 2 (b85T (R.drop 1))else decoR 1 (hexT R)
def greaterR (R:List UInt8):T3:=if R.head? =some 62 then textK 3 [62,62] 2 else err3 37
def slashR (R:List UInt8):T3:=
 if R.head? =some 47 then textK 5 ((R.drop 1).take (runN isReg (R.drop 1))) (2+runN isReg (R.drop 1))else textK 4 (R.take (runN isReg R)) (1+runN isReg R)
end Go.Ev

/- What begins with the sign less; the token at a reader's place. -/
namespace Go.Ev
open Go
variable {T : Tab} {st : St}
def wordK (s:List UInt8):T3:=
 if(wordT (s.take (runN isReg s))).2.2.2≠0 then err3 (wordT (s.take (runN isReg s))).2.2.2
 else(((wordT (s.take (runN isReg s))).1,(wordT (s.take (runN isReg s))).2.1,(wordT (s.take (runN isReg s))).2.2.1),runN isReg s,0)
def tokS:List UInt8→T3
 | []=>err3 37
 | c::R=>
   if c=40 then quotedR (c::R)else if c=41 then err3 37 else if c=123 then((7,0,[]),1,0)else if c=125 then((8,0,[]),1,0)
   else if c=91∨c=93 then textK 3 [c] 1 else if c=60 then lessR R else if c=62 then greaterR R else if c=47 then slashR R
   else if 128≤c.toNat∧c.toNat<160 then binR c R else wordK (c::R)
end Go.Ev

/- The token at a reader's place; Next. -/
namespace Go.Ev
open Go
variable {T : Tab} {st : St}
def nextS (s:List UInt8) (i:Int):T3:=
 if 65536<s.length then err3 3
 else if i<0∨(s.length:Int)<i then err3 2
 else let k:=i.toNat+skp false (s.drop i.toNat)
  if k=s.length then((0,0,[]),k,4)else((tokS (s.drop k)).1,k+(tokS (s.drop k)).2.1,(tokS (s.drop k)).2.2)
end Go.Ev

/- The reference's token. -/
namespace Go.Ev
open Go
variable {T : Tab} {st : St}
end Go.Ev

/- The reference's Next. -/
namespace Go.Ev
open Go
variable {T : Tab} {st : St}
end Go.Ev

/- Lists of tokens. -/
namespace Go.Ev
open Go
variable {T : Tab} {st : St}
theorem rdCells_part {h:Heap} {n off c o k:Nat} {cs:List AV} (a:rdCells h n off c=some cs) (hk:o+k≤c):rdCells h n (off+o) k=some ((cs.drop o).take k):=by
 unfold rdCells at a⊢
 split at a
 all_goals
  first
  | (split at a
     ·rename_i hle
      injection a with a
      rw[if_pos (by omega),←a,List.drop_take,List.drop_drop,List.take_take,Nat.min_eq_left (by omega)]
     ·cases a)
  | cases a
structure Dra where
 k:Nat
 n:Int
 t:List UInt8
instance:Inhabited Dra:=⟨⟨0,0,[]⟩⟩
end Go.Ev

/- Objects, cells and heaps of the language, and how they lie in the evaluator's blocks. -/
namespace Go.Ev
open Go
variable {T : Tab} {st st' : St}
structure Ob where
 k:Int
 x:Bool
 n:Int
 t:List UInt8
 r:Int
 o:Int
 l:Int
 deriving DecidableEq,Inhabited
def Ob.A (o:Ob):List AV:=[.int .i64 o.k,.bool o.x,.int .i64 o.n,.str o.t,.int .i64 o.r,.int .i64 o.o,.int .i64 o.l]
def Ob.v (o:Ob):AV:= .agg o.A
def obsA (l:List Ob):List AV:=l.flatMap Ob.A
theorem Ob.A_len (o:Ob):o.A.length=7:=rfl
theorem obsA_cons (o:Ob) (l:List Ob):obsA (o::l)=o.A++obsA l:=rfl
theorem obsA_append (a b:List Ob):obsA (a++b)=obsA a++obsA b:=by simp[obsA]
theorem obsA_len:∀l:List Ob,(obsA l).length=l.length*7
 | []=>rfl
 | o::l=>by rw[obsA_cons,List.length_append,obsA_len l,List.length_cons,Ob.A_len];omega
theorem obsA_drop:∀(l:List Ob) (i:Nat),(obsA l).drop (i*7)=obsA (l.drop i)
 | [],i=>by simp[obsA]
 | o::l,0=>by simp
 | o::l,i+1=>by
   rw[obsA_cons,show (i+1)*7=o.A.length+i*7 by rw[Ob.A_len];omega,←List.drop_drop,List.drop_left,obsA_drop l i,List.drop_succ_cons]
theorem obsA_take:∀(l:List Ob) (i:Nat),(obsA l).take (i*7)=obsA (l.take i)
 | [],i=>by simp[obsA]
 | o::l,0=>by simp[obsA]
 | o::l,i+1=>by
   rw[obsA_cons,show (i+1)*7=o.A.length+i*7 by rw[Ob.A_len];omega,List.take_length_add_append,obsA_take l i,List.take_succ_cons,obsA_cons]
theorem obsA_at {l:List Ob} {i:Nat} {o:Ob} (h:l[i]? =some o):((obsA l).drop (i*7)).take 7=o.A:=by
 rw[obsA_drop,show 7=1*7 by rfl,obsA_take]
 have:(l.drop i).take 1=[o]:=by
  rw[List.getElem?_eq_some_iff]at h
  obtain⟨hi,h⟩:=h
  rw[List.drop_eq_getElem_cons hi,h];rfl
 rw[this];simp[obsA]
def CapOK (len:Nat):Cap→Prop
 | .known c=>len≤c
 | _=>True
def AObj.ow:AObj→Bool
 | .cells _ false _ | .buf .. =>true
 | _=>false
theorem AObj.ow_lc {o:AObj} (h:o.ow=true):o.lc=false:=by
 unfold AObj.ow at h
 split at h
 ·rfl
 ·rfl
 ·cases h
def Stays (h:Heap) (n:Nat):Prop:=∃o,hget h n=some o∧o.ow=true
theorem Stays.frm {n:Nat} {S:List Nat} (a:Stays st.h n) (x:Frm S st st') (hw:st.Wf) (hn:n∉S):Stays st'.h n:=by
 obtain⟨o,h1,h2⟩:=a
 exact⟨o,x.get hw h1 hn,h2⟩
theorem Stays.dropLoc {n c:Nat} (a:Stays st.h n) (hw:st.Wf):Stays (Go.Ev.dropLoc c st.h) n:=by
 obtain⟨o,h1,h2⟩:=a
 exact⟨o,hget_dropLoc_keep hw h1 (AObj.ow_lc h2),h2⟩
def RdS (es:Nat) (h:Heap) (v:AV) (k:Nat) (cs:List AV):Prop:=cs.length=k*es∧((v= .nilslice∧k=0)∨∃n off cp,v= .slice n off k cp∧CapOK k cp∧Stays h n∧rdCells h n off (k*es)=some cs)
theorem RdS.nil (es:Nat) (h:Heap):RdS es h .nilslice 0 []:=⟨by simp,.inl ⟨rfl,rfl⟩⟩
theorem RdS.rd {es:Nat} {h:Heap} {v:AV} {k:Nat} {cs:List AV} (a:RdS es h v k cs):Rd h v es k cs:=by
 obtain⟨h0,⟨h1,h2⟩ | ⟨n,off,cp,h1,h2,h3,h4⟩⟩:=a
 ·exact .inl ⟨h1,h2,List.length_eq_zero_iff.1 (by rw[h0,h2];simp)⟩
 ·exact .inr ⟨n,off,cp,h1,h4⟩
theorem RdS.frm {es:Nat} {v:AV} {k:Nat} {cs:List AV} {S:List Nat} (a:RdS es st.h v k cs) (x:Frm S st st') (hw:st.Wf) (hn:∀n∈v.nms,n∉S):RdS es st'.h v k cs:=by
 obtain⟨h0,⟨h1,h2⟩ | ⟨n,off,cp,h1,h2,h3,h4⟩⟩:=a
 ·exact⟨h0,.inl ⟨h1,h2⟩⟩
 ·have hn':n∉S:=hn n (by simp[h1,AV.nms])
  refine⟨h0,.inr ⟨n,off,cp,h1,h2,h3.frm x hw hn',?_⟩⟩
  obtain⟨o,ho⟩:=rdCells_some h4
  have:=x.get hw ho hn'
  unfold rdCells at h4⊢
  rw[ho]at h4
  rw[this]
  exact h4
theorem RdS.ext {es:Nat} {v:AV} {k:Nat} {cs:List AV} (a:RdS es st.h v k cs) (x:Ext st st') (hw:st.Wf):RdS es st'.h v k cs:=a.frm (x.fr []) hw (by simp)
theorem RdS.dropLoc {es c:Nat} {v:AV} {k:Nat} {cs:List AV} (a:RdS es st.h v k cs) (hw:st.Wf):RdS es (Go.Ev.dropLoc c st.h) v k cs:=by
 obtain⟨h0,⟨h1,h2⟩ | ⟨n,off,cp,h1,h2,h3,h4⟩⟩:=a
 ·exact⟨h0,.inl ⟨h1,h2⟩⟩
 ·refine⟨h0,.inr ⟨n,off,cp,h1,h2,h3.dropLoc hw,?_⟩⟩
  obtain⟨o,h5,h6⟩:=h3
  have:=hget_dropLoc_keep (c:=c) hw h5 (AObj.ow_lc h6)
  unfold rdCells at h4⊢
  rw[h5]at h4
  rw[this]
  exact h4
theorem RdS.sc {es:Nat} {h:Heap} {v:AV} {k:Nat} {cs:List AV} (a:RdS es h v k cs):v.sc=true:=by
 obtain⟨h0,⟨h1,h2⟩ | ⟨n,off,cp,h1,h2,h3,h4⟩⟩:=a <;> rw[h1] <;> rfl
theorem RdS.sub3 {es:Nat} {h:Heap} {v:AV} {k:Nat} {cs:List AV} (a:RdS es h v k cs) {ev:AO→AV} {x lo hi:AO} {i j:Int} (hx:ev x=v) (hlo:ev lo= .int .i64 i) (hhi:ev hi= .int .i64 j) (h0:0≤i) (h1:i≤j) (h2:j≤k):
  ∃v',PO.run ev (.subL es x (some lo) (some hi) (some hi))=some v'∧RdS es h v' (j.toNat - i.toNat) ((cs.drop (i.toNat*es)).take ((j.toNat - i.toNat)*es)):=by
 obtain⟨i,rfl⟩:=Int.eq_ofNat_of_zero_le h0
 obtain⟨j,rfl⟩:=Int.eq_ofNat_of_zero_le (by omega:0≤j)
 simp only[Int.ofNat_eq_natCast,Int.toNat_natCast]
 have hij:i≤j:=by omega
 have hjk:j≤k:=by omega
 obtain⟨hl,⟨rfl,rfl⟩ | ⟨n,off,cp,rfl,hcp,hst,hrd⟩⟩:=a
 ·have hi0:i=0:=by omega
  have hj0:j=0:=by omega
  subst hi0 hj0
  have hcs:cs=[]:=List.length_eq_zero_iff.1 (by rw[hl];simp)
  subst hcs
  refine⟨.nilslice,?_,by simp,.inl ⟨rfl,rfl⟩⟩
  simp[PO.run,hx,hlo,hhi,asubL,abounds,abound,bnd,topOf,subCap]
 ·have hb:abounds k (topOf k cp) (some (.int .i64 (i:Int))) (some (.int .i64 (j:Int))) (some (.int .i64 (j:Int)))=some (i,j,some j):=by
   have ht:(j:Int)≤(topOf k cp:Nat):=by
    cases cp with
    | known c=>simp only[CapOK]at hcp;simp only[topOf];omega
    | _=>simp only[topOf];omega
   simp only[abounds,abound,bnd,Int.toNat_natCast]
   rw[if_pos ⟨by omega,ht⟩]
   simp only[Int.toNat_natCast,if_pos (⟨by omega,Int.le_refl _⟩:(0:Int)≤(j:Int)∧(j:Int)≤(j:Int)),if_pos (⟨by omega,by omega⟩:(0:Int)≤(i:Int)∧(i:Int)≤(j:Int))]
  have hlen:((cs.drop (i*es)).take ((j - i)*es)).length=(j - i)*es:=by
   rw[List.length_take,List.length_drop,hl]
   have h3:i*es+(j - i)*es≤k*es:=by
    rw[←Nat.add_mul]
    exact Nat.mul_le_mul_right es (by omega)
   omega
  have hpart:rdCells h n (off+i*es) ((j - i)*es)=some ((cs.drop (i*es)).take ((j - i)*es)):=rdCells_part hrd (by
   rw[←Nat.add_mul]
   exact Nat.mul_le_mul_right es (by omega))
  simp only[PO.run,hx,hlo,hhi,Option.map_some,asubL,hb,subCap]
  by_cases e:j - i=0
  ·rw[e]
   refine⟨_,rfl,by simp,.inr ⟨n,off,.known 0,rfl,Nat.le_refl _,hst,?_⟩⟩
   have:=rdCells_part hrd (o:=0) (k:=0) (by omega)
   simp only[Nat.add_zero,List.take_zero,Nat.zero_mul]at this⊢
   exact this
  ·obtain⟨z,hz⟩:∃z,j - i=z+1:=⟨j - i - 1,by omega⟩
   rw[hz]at hpart hlen⊢
   exact⟨_,rfl,hlen,.inr ⟨n,_,_,rfl,Nat.le_refl _,hst,hpart⟩⟩
def RdO (h:Heap) (v:AV) (l:List Ob):Prop:=RdS 7 h v l.length (obsA l)
theorem RdO.nil (h:Heap):RdO h .nilslice []:=RdS.nil 7 h
theorem RdO.ext {v:AV} {l:List Ob} (a:RdO st.h v l) (x:Ext st st') (hw:st.Wf):RdO st'.h v l:=RdS.ext a x hw
structure Ce where
 k:Int
 b:List UInt8
 it:List Ob
 ks:List Ob
 vs:List Ob
 mx:Int
 at':Int
 deriving DecidableEq,Inhabited
def CeR (h:Heap) (c:Ce) (cs:List AV):Prop:=∃a b d,cs=[.int .i64 c.k,.str c.b,a,b,d,.int .i64 c.mx,.int .i64 c.at']∧RdO h a c.it∧RdO h b c.ks∧RdO h d c.vs
theorem CeR.len {h:Heap} {c:Ce} {cs:List AV} (a:CeR h c cs):cs.length=7:=by
 obtain⟨_,_,_,rfl,_⟩:=a;rfl
theorem CeR.sc {h:Heap} {c:Ce} {cs:List AV} (a:CeR h c cs):cs.all AV.sc=true:=by
 obtain⟨a,b,d,rfl,h1,h2,h3⟩:=a
 simp only[List.all_cons,List.all_nil,RdS.sc h1,RdS.sc h2,RdS.sc h3]
 rfl
theorem CeR.ext {c:Ce} {cs:List AV} (a:CeR st.h c cs) (x:Ext st st') (hw:st.Wf):CeR st'.h c cs:=by
 obtain⟨a,b,d,h0,h1,h2,h3⟩:=a
 exact⟨a,b,d,h0,h1.ext x hw,h2.ext x hw,h3.ext x hw⟩
theorem CeR.dropLoc {c:Ce} {cs:List AV} {k:Nat} (a:CeR st.h c cs) (hw:st.Wf):CeR (Go.Ev.dropLoc k st.h) c cs:=by
 obtain⟨a,b,d,h0,h1,h2,h3⟩:=a
 exact⟨a,b,d,h0,RdS.dropLoc h1 hw,RdS.dropLoc h2 hw,RdS.dropLoc h3 hw⟩
def CesR (h:Heap):List Ce→List AV→Prop
 | [],cs=>cs=[]
 | c::l,cs=>∃x r,cs=x++r∧CeR h c x∧CesR h l r
theorem CesR.len {h:Heap}:∀{l:List Ce} {cs:List AV},CesR h l cs→cs.length=l.length*7
 | [],_,a=>by cases a;rfl
 | c::l,_,⟨x,r,e,h1,h2⟩=>by subst e;rw[List.length_append,h1.len,h2.len,List.length_cons];omega
theorem CesR.sc {h:Heap}:∀{l:List Ce} {cs:List AV},CesR h l cs→cs.all AV.sc=true
 | [],_,a=>by cases a;rfl
 | c::l,_,⟨x,r,e,h1,h2⟩=>by subst e;rw[List.all_append,h1.sc,h2.sc];rfl
theorem CesR.ext (x:Ext st st') (hw:st.Wf):∀{l:List Ce} {cs:List AV},CesR st.h l cs→CesR st'.h l cs
 | [],_,a=>a
 | c::l,_,⟨y,r,e,h1,h2⟩=>⟨y,r,e,h1.ext x hw,CesR.ext x hw h2⟩
theorem CesR.dropLoc {k:Nat} (hw:st.Wf):∀{l:List Ce} {cs:List AV},CesR st.h l cs→CesR (Go.Ev.dropLoc k st.h) l cs
 | [],_,a=>a
 | c::l,_,⟨y,r,e,h1,h2⟩=>⟨y,r,e,h1.dropLoc hw,CesR.dropLoc hw h2⟩
theorem CesR.at {h:Heap}:∀{l:List Ce} {cs:List AV} {i:Nat} {c:Ce},CesR h l cs→l[i]? =some c→CeR h c ((cs.drop (i*7)).take 7)
 | [],_,_,_,_,hc=>by simp at hc
 | d::l,_,0,c,⟨x,r,e,h1,h2⟩,hc=>by
   simp at hc
   subst hc e
   rw[Nat.zero_mul,List.drop_zero,List.take_append_of_le_length (by rw[h1.len];omega),List.take_of_length_le (by rw[h1.len];omega)]
   exact h1
 | d::l,_,i+1,c,⟨x,r,e,h1,h2⟩,hc=>by
   have:=h2.at (i:=i) (c:=c) (by simpa using hc)
   subst e
   rw[show (i+1)*7=x.length+i*7 by rw[h1.len];omega,←List.drop_drop,List.drop_left]
   exact this
theorem CesR.put {h:Heap} {c:Ce} {x:List AV} (hc:CeR h c x):∀{l:List Ce} {cs:List AV} {i:Nat},CesR h l cs→i<l.length→CesR h (l.set i c) (splice cs (i*7) x):=by
 intro l
 induction l with
 | nil=>intro cs i _ hi;simp at hi
 | cons d l ih=>
   rintro cs i ⟨y,r,rfl,h1,h2⟩ hi
   cases i with
   | zero=>
     refine⟨x,r,?_,hc,h2⟩
     have:=splice_mid x y r [] (by rw[hc.len,h1.len])
     simpa using this
   | succ i=>
     refine⟨y,splice r (i*7) x,?_,h1,ih h2 (by simpa using hi)⟩
     have aux:∀(x r:List AV) (o:Nat),splice (y++r) (y.length+o) x=y++splice r o x:=by
      intro x
      induction x with
      | nil=>intro r o;rfl
      | cons v x ihx=>
        intro r o
        simp only[splice]
        rw[List.set_append_right _ _ (by omega),show y.length+o - y.length=o by omega,show y.length+o+1=y.length+(o+1)by omega]
        exact ihx (r.set o v) (o+1)
     rw[show (i+1)*7=y.length+i*7 by rw[h1.len];omega]
     exact aux x r (i*7)
def HpR (h:Heap) (v:AV) (l:List Ce):Prop:=∃cs,CesR h l cs∧RdS 7 h v l.length cs
theorem HpR.nil (h:Heap):HpR h .nilslice []:=⟨[],rfl,.nil 7 h⟩
theorem HpR.ext {v:AV} {l:List Ce} (a:HpR st.h v l) (x:Ext st st') (hw:st.Wf):HpR st'.h v l:=by
 obtain⟨cs,h1,h2⟩:=a
 exact⟨cs,h1.ext x hw,h2.ext x hw⟩
theorem HpR.dropLoc {v:AV} {l:List Ce} {k:Nat} (a:HpR st.h v l) (hw:st.Wf):HpR (Go.Ev.dropLoc k st.h) v l:=by
 obtain⟨cs,h1,h2⟩:=a
 exact⟨cs,h1.dropLoc hw,h2.dropLoc hw⟩
theorem HpR.sc {h:Heap} {v:AV} {l:List Ce} (a:HpR h v l):v.sc=true:=by
 obtain⟨cs,h1,h2⟩:=a
 exact h2.sc
theorem take_all {cs:List AV} {n:Nat} (h:cs.length=n):cs.take n=cs:=List.take_of_length_le (by omega)
theorem splice_len {a b:List AV} (h:b.length=a.length):splice a 0 b=b:=splice_whole h
@[go_sem] theorem Ob_acells (o:Ob):acells o.v=o.A:=rfl
@[go_sem] theorem Ob_nb (o:Ob):o.v.nb=true:=rfl
theorem Ext.consN {h:Heap} {n m:Nat} {o:AObj} (x:Ext st ⟨h,n⟩) (hm:n<m):Ext st ⟨(n,o)::h,m⟩:=by
 have a:=x.trans (Ext.new x.wf o)
 exact a.trans ⟨hm,⟨fun k p hp=>Nat.lt_of_lt_of_le (a.wf.lt k p hp) hm,a.wf.nd⟩,fun _ _=>rfl⟩
theorem Ext.upN {h:Heap} {n m:Nat} (x:Ext st ⟨h,n⟩) (hm:n≤m):Ext st ⟨h,m⟩:=
 x.trans ⟨hm,⟨fun k p hp=>Nat.lt_of_lt_of_le (x.wf.lt k p hp) hm,x.wf.nd⟩,fun _ _=>rfl⟩
theorem Ext.consF {h:Heap} {n m:Nat} {o:AObj} (x:Ext st ⟨h,m⟩) (hf:hget h n=none) (h0:st.nx≤n) (hm:n<m):Ext st ⟨(n,o)::h,m⟩:=by
 refine⟨x.nx,⟨fun k p hp=> ?_,?_⟩,fun k hk=> ?_⟩
 ·simp only[hget]at hp
  split at hp
  ·rename_i e;subst e;exact hm
  ·exact x.wf.lt k p hp
 ·simp only[List.map_cons,List.nodup_cons]
  refine⟨fun hmem=> ?_,x.wf.nd⟩
  obtain⟨⟨k,p⟩,hk,e⟩:=List.mem_map.1 hmem
  simp only at e
  subst e
  rw[mem_hget x.wf.nd hk]at hf
  cases hf
 ·simp only[hget]
  rw[if_neg (by omega)]
  exact x.keep k hk
theorem hget_hset':∀{h:Heap} {n m:Nat} {o:AObj},hget (hset h n o) m=if n=m then(hget h n).map (fun _=>o)else hget h m
 | [],n,m,o=>by simp[hset,hget]
 | (k,p)::h,n,m,o=>by
   simp only[hset]
   by_cases e:k=n
   ·subst e
    simp only[if_true,hget]
    by_cases e2:k=m
    ·subst e2;simp
    ·simp[e2]
   ·simp only[if_neg e,hget]
    by_cases e2:k=m
    ·subst e2
     rw[if_pos rfl,if_pos rfl,if_neg (fun h=>e h.symm)]
    ·rw[if_neg e2,if_neg e2,hget_hset']
theorem Ext.setN {h:Heap} {n m:Nat} {o:AObj} (x:Ext st ⟨h,m⟩) (h0:st.nx≤n):Ext st ⟨hset h n o,m⟩:=by
 refine⟨x.nx,⟨fun k p hp=> ?_,by show ((hset h n o).map _).Nodup;rw[hset_names];exact x.wf.nd⟩,fun k hk=> ?_⟩
 ·simp only[hget_hset']at hp
  split at hp
  ·rename_i e
   subst e
   cases hg:hget h n with
   | none=>rw[hg]at hp;cases hp
   | some q=>exact x.wf.lt n q hg
  ·exact x.wf.lt k p hp
 ·simp only[hget_hset']
  rw[if_neg (by omega)]
  exact x.keep k hk
def rdOb:AObj→Nat→Nat→Option (List AV)
 | .cells _ _ cs,off,k | .buf _ _ cs,off,k | .ro cs,off,k | .glob _ cs,off,k=>if off+k≤cs.length then some ((cs.drop off).take k)else none
 | _,_,_=>none
def rdOb1:AObj→Nat→Option AV
 | .cells _ _ cs,off | .buf _ _ cs,off | .ro cs,off | .glob _ cs,off=>cs[off]?
 | _,_=>none
theorem rdCells_bind (h:Heap) (n off k:Nat):rdCells h n off k=(hget h n).bind fun o=>rdOb o off k:=by
 unfold rdCells
 cases hg:hget h n with
 | none=>rfl
 | some o=>cases o <;> rfl
theorem rdCell_bind (h:Heap) (n off:Nat):rdCell h n off=(hget h n).bind fun o=>rdOb1 o off:=by
 unfold rdCell
 cases hg:hget h n with
 | none=>rfl
 | some o=>cases o <;> rfl
section
variable (ty es off k : Nat) (l : Bool) (cs : List AV)
theorem rdOb_cells:rdOb (.cells ty l cs) off k=if off+k≤cs.length then some ((cs.drop off).take k)else none:=rfl
theorem rdOb_buf:rdOb (.buf ty es cs) off k=if off+k≤cs.length then some ((cs.drop off).take k)else none:=rfl
theorem rdOb_ro:rdOb (.ro cs) off k=if off+k≤cs.length then some ((cs.drop off).take k)else none:=rfl
theorem rdOb_glob:rdOb (.glob ty cs) off k=if off+k≤cs.length then some ((cs.drop off).take k)else none:=rfl
theorem rdOb1_cells:rdOb1 (.cells ty l cs) off=cs[off]? :=rfl
theorem rdOb1_buf:rdOb1 (.buf ty es cs) off=cs[off]? :=rfl
theorem rdOb1_ro:rdOb1 (.ro cs) off=cs[off]? :=rfl
theorem rdOb1_glob:rdOb1 (.glob ty cs) off=cs[off]? :=rfl
end
theorem rdOb_part {o:AObj} {off k i j:Nat} {cs:List AV} (h:rdOb o off k=some cs) (hj:i+j≤k):rdOb o (off+i) j=some ((cs.drop i).take j):=by
 unfold rdOb at h⊢
 split at h
 all_goals first
  | (split at h
     ·rename_i hle
      cases h
      rw[if_pos (by omega),List.drop_take,List.drop_drop,List.take_take,Nat.min_eq_left (by omega)]
     ·cases h)
  | cases h
theorem rdOb_one {o:AObj} {off k i:Nat} {cs:List AV} (h:rdOb o off k=some cs) (hi:i<k):rdOb1 o (off+i)=cs[i]? :=by
 unfold rdOb at h
 unfold rdOb1
 split at h
 all_goals first
  | (split at h
     ·cases h;simp[hi]
     ·cases h)
  | cases h
theorem RdS.form {es:Nat} {v:AV} {k:Nat} {cs:List AV} (a:RdS es st.h v k cs) (hw:st.Wf):(v= .nilslice∧k=0∧cs=[])∨∃n off cp ob,v= .slice n off k cp∧CapOK k cp∧n<st.nx∧hget st.h n=some ob∧ob.ow=true∧rdOb ob off (k*es)=some cs:=by
 obtain⟨h0,⟨h1,h2⟩ | ⟨n,off,cp,h1,h2,⟨o,h3,h3'⟩,h4⟩⟩:=a
 ·exact .inl ⟨h1,h2,List.length_eq_zero_iff.1 (by rw[h0,h2];simp)⟩
 ·refine .inr ⟨n,off,cp,o,h1,h2,hw.lt _ _ h3,h3,h3',?_⟩
  rw[rdCells_bind,h3]at h4
  exact h4
theorem RdO.form {v:AV} {l:List Ob} (a:RdO st.h v l) (hw:st.Wf):(v= .nilslice∧l=[])∨∃n off cp ob,v= .slice n off l.length cp∧CapOK l.length cp∧n<st.nx∧hget st.h n=some ob∧ob.ow=true∧∀i o,l[i]? =some o→rdOb ob (off+i*7) 7=some o.A:=by
 rcases RdS.form a hw with ⟨h1,h2,h3⟩ | ⟨n,off,cp,ob,h1,h2,h3,h4,h5,h6⟩
 ·exact .inl ⟨h1,List.length_eq_zero_iff.1 h2⟩
 ·refine .inr ⟨n,off,cp,ob,h1,h2,h3,h4,h5,fun i o ho=> ?_⟩
  have hi:i<l.length:=(List.getElem?_eq_some_iff.1 ho).1
  have:=rdOb_part h6 (i:=i*7) (j:=7) (by omega)
  rwa[obsA_at ho]at this
theorem HpR.form {v:AV} {l:List Ce} (a:HpR st.h v l) (hw:st.Wf):(v= .nilslice∧l=[])∨∃n off cp ob,v= .slice n off l.length cp∧CapOK l.length cp∧n<st.nx∧hget st.h n=some ob∧ob.ow=true∧∀i c,l[i]? =some c→∃x,rdOb ob (off+i*7) 7=some x∧CeR st.h c x:=by
 obtain⟨cs,hc,a⟩:=a
 rcases RdS.form a hw with ⟨h1,h2,h3⟩ | ⟨n,off,cp,ob,h1,h2,h3,h4,h5,h6⟩
 ·exact .inl ⟨h1,List.length_eq_zero_iff.1 h2⟩
 ·refine .inr ⟨n,off,cp,ob,h1,h2,h3,h4,h5,fun i o ho=> ?_⟩
  have hi:i<l.length:=(List.getElem?_eq_some_iff.1 ho).1
  exact⟨_,rdOb_part h6 (i:=i*7) (j:=7) (by omega),hc.at ho⟩
attribute [go_sem] wrap64' hget_hset' rdCells_bind rdCell_bind rdOb_cells rdOb_buf rdOb_ro rdOb_glob rdOb1_cells rdOb1_buf rdOb1_ro rdOb1_glob wrCells hget_cons hset_cons fresults resVals resVal Ob.A Ob.v
end Go.Ev

/- More functions of the library as entries: Compare, HasPrefix, HasSuffix, ToUpper of strings; FormatBool. -/
namespace Go.Ev
open Go Go.RowKit
variable {X : Cx} {D : ChkD} {T : Tab} {st : St}
namespace B
def E_strings_Compare:Entry:=fun args st=>match args with
 | [.str a,.str b]=>some (.int .i64 (Lib.compareBytes a b),st)
 | _=>none
def E_strconv_FormatBool:Entry:=fun args st=>match args with
 | [.bool b]=>some (.str (if b=true then [116,114,117,101]else [102,97,108,115,101]),st)
 | _=>none
def E_strings_ToUpper:Entry:=fun args st=>match args with
 | [.str s]=>if s.length≤140737488355328∧s.all (fun b=>decide (b.toNat<128))=true then some (.str (Lib.toUpperA s),st)else none
 | _=>none
end B
theorem compare_entry {f:Nat} (hb:bodyB X.P (X.φ f)=true)
  (h:∀(a b:ByteArray) (w:World),Calls X.P (X.φ f) #[.string a,.string b] w fun e w'=>e= .returned (.int .i64 (Lib.compareBytes a.data.toList b.data.toList))∧w'=w):EntryOK D X f B.E_strings_Compare:=by
 refine entry_of_calls hb fun args st v st' hF=> ?_
 unfold B.E_strings_Compare at hF
 split at hF
 case h_2=>cases hF
 cases hF
 refine⟨rfl,fun N us hus=> ?_⟩
 obtain⟨u0,us0,rfl,h0,u1,us1,rfl,h1,rfl⟩:=hus
 cases h0
 cases h1
 refine⟨_,rfl,fun w=> ?_⟩
 refine(h ⟨_⟩ ⟨_⟩ w).mono fun e w' ⟨h1,h2⟩=>⟨by simpa using h1,?_⟩
 subst h2
 exact Below.refl _ _
theorem formatBool_eq (b:Bool):Lib.formatBool b=if b=true then [116,114,117,101]else [102,97,108,115,101]:=by cases b <;> decide
theorem formatBool_entry {f:Nat} (hb:bodyB X.P (X.φ f)=true)
  (h:∀(b:Bool) (w:World),Calls X.P (X.φ f) #[.bool b] w fun e w'=>e= .returned (.string ⟨(Lib.formatBool b).toArray⟩)∧w'=w):EntryOK D X f B.E_strconv_FormatBool:=by
 refine entry_of_calls hb fun args st v st' hF=> ?_
 unfold B.E_strconv_FormatBool at hF
 split at hF
 case h_2=>cases hF
 cases hF
 refine⟨rfl,fun N us hus=> ?_⟩
 obtain⟨u0,us0,rfl,h0,rfl⟩:=hus
 cases h0
 refine⟨_,rfl,fun w=> ?_⟩
 refine(h _ w).mono fun e w' ⟨h1,h2⟩=>⟨by rw[h1,formatBool_eq],?_⟩
 subst h2
 exact Below.refl _ _
theorem toUpper_entry {f:Nat} (hb:bodyB X.P (X.φ f)=true)
  (h:∀(s:ByteArray) (w:World),s.size≤140737488355328→(∀(j:Nat) (b:UInt8),s.data.toList[j]? =some b→b.toNat<128)→Calls X.P (X.φ f) #[.string s] w fun e w'=>e= .returned (.string ⟨(Lib.toUpperA s.data.toList).toArray⟩)∧Below w.heap.size w w'):EntryOK D X f B.E_strings_ToUpper:=by
 refine entry_of_calls hb fun args st v st' hF=> ?_
 unfold B.E_strings_ToUpper at hF
 split at hF
 case h_2=>cases hF
 split at hF
 case isFalse=>cases hF
 rename_i hc
 cases hF
 refine⟨rfl,fun N us hus=> ?_⟩
 obtain⟨u0,us0,rfl,h0,rfl⟩:=hus
 cases h0
 refine⟨_,rfl,fun w=> ?_⟩
 refine(h ⟨_⟩ w (by simpa [ByteArray.size] using hc.1) (fun j b hj=> ?_)).mono fun e w' ⟨h1,h2⟩=>⟨by simpa using h1,h2⟩
 have:=List.all_eq_true.1 hc.2 b (List.mem_of_getElem? hj)
 simpa using this
end Go.Ev
