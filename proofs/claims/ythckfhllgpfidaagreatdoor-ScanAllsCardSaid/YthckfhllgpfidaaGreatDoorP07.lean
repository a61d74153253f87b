/- The plain law of numbers: values. -/
import Derived.Test.YthckfhllgpfidaaGreatDoorP06
import Derived.Test.YthckfhllgpfidaaGreatDoorP04
import Derived.Stop.LaidErr
import Derived.Lib.LaidTab
import Derived.SizedLaws
import Derived.Lib.Join
set_option linter.unusedSimpArgs false
set_option linter.unusedVariables false
set_option linter.unusedSectionVars false
namespace Go.Ev
open Go
theorem Zii:∀(l:List Nat) (n:Nat),l.foldl (fun a d=>10*a+d) n=n*10 ^ l.length+Qz l
 | [],n=>by simp[Qz]
 | d::l,n=>by
   rw[List.foldl_cons,Zii l]
   have:Qz (d::l)=d*10 ^ l.length+Qz l:=by
    show List.foldl _ (10*0+d) l=_
    rw[Zii l];simp
   rw[this,List.length_cons,Nat.pow_succ]
   have e:(10*n+d)*10 ^ l.length=n*(10 ^ l.length*10)+d*10 ^ l.length:=by
    rw[Nat.add_mul];congr 1
    rw[Nat.mul_comm 10 n,Nat.mul_assoc,Nat.mul_comm 10]
   omega
theorem Ee (d:Nat) (l:List Nat):Qz (d::l)=d*10 ^ l.length+Qz l:=by
 show List.foldl _ (10*0+d) l=_
 rw[Zii l];simp
theorem Nk (a b:List Nat):Qz (a++b)=Qz a*10 ^ b.length+Qz b:=by
 rw[Qz,List.foldl_append,Zii];rfl
theorem Oz:∀k,Qz (List.replicate k 0)=0
 | 0=>rfl
 | k+1=>by rw[List.replicate_succ,Ee,Oz k];simp
theorem Zm0:∀l:List Nat,Qz l=0↔∀d∈l,d=0
 | []=>by simp[Qz]
 | d::l=>by
   rw[Ee,Nat.add_eq_zero_iff,Zm0 l,Nat.mul_eq_zero]
   have:(10 ^ l.length:Nat)≠0:=Nat.ne_of_gt (Nat.pow_pos (by omega))
   simp[this]
theorem Zsm (l:List Nat):(l.any fun d=>decide (d≠0))=decide (Qz l≠0):=by
 rw[Bool.eq_iff_iff]
 simp only[List.any_eq_true,decide_eq_true_eq,ne_eq,Zm0]
 constructor
 ·rintro⟨x,hx,hn⟩ hall;exact hn (hall x hx)
 ·intro h
  exact Classical.byContradiction fun hno=>h fun d hd=>Classical.byContradiction fun hne=>hno ⟨d,hd,hne⟩
theorem Zno:∀l:List Nat,(dbl l).1*10 ^ l.length+Qz (dbl l).2=2*Qz l
 | []=>rfl
 | d::l=>by
   have ih:=Zno l
   simp only[dbl,Ee,Ff,List.length_cons,Nat.pow_succ]
   generalize Qz l=A at*
   generalize Qz (dbl l).2=B at*
   generalize (dbl l).1=c at*
   generalize 10 ^ l.length=p at*
   have e1:(2*d+c) / 10*(p*10)+(2*d+c) % 10*p=(2*d+c)*p:=by
    have:=Nat.div_add_mod (2*d+c) 10
    generalize (2*d+c) / 10=q at*
    generalize (2*d+c) % 10=r at*
    rw[←this,Nat.add_mul,Nat.mul_comm p 10,←Nat.mul_assoc,Nat.mul_comm q 10]
   have e2:(2*d+c)*p=2*(d*p)+c*p:=by rw[Nat.add_mul,Nat.mul_assoc]
   omega
theorem Zmm:∀(m n:Nat) (l:List Nat),(Mg m n l).1*10 ^ l.length+Qz (Mg m n l).2=(n*10 ^ l.length+Qz l)*2 ^ m∧(Mg m n l).2.length=l.length
 | 0,n,l=>by simp[Mg]
 | m+1,n,l=>by
   have ih:=Zmm m (2*n+(dbl l).1) (dbl l).2
   have hd:=Zno l
   simp only[Mg,Ff]at*
   refine⟨?_,ih.2⟩
   rw[ih.1,Nat.pow_succ]
   generalize Qz l=A at*
   generalize Qz (dbl l).2=B at*
   generalize (dbl l).1=c at*
   generalize 10 ^ l.length=p at*
   have e:(2*n+c)*p+B=(n*p+A)*2:=by
    rw[Nat.add_mul,Nat.mul_assoc];omega
   rw[e,Nat.mul_assoc,Nat.mul_comm 2]
theorem Zqy:∀l:List Nat,(Mu l).2*10 ^ l.length+Qz (Mu l).1=131072*Qz l
 | []=>rfl
 | d::l=>by
   have ih:=Zqy l
   simp only[Mu,Ee,Bg,List.length_cons,Nat.pow_succ]
   generalize Qz l=A at*
   generalize Qz (Mu l).1=B at*
   generalize (Mu l).2=c at*
   generalize 10 ^ l.length=p at*
   generalize hM:131072=M at*
   have e1:(M*d+c) / 10*(p*10)+(M*d+c) % 10*p=(M*d+c)*p:=by
    have:=Nat.div_add_mod (M*d+c) 10
    generalize (M*d+c) / 10=q at*
    generalize (M*d+c) % 10=r at*
    rw[←this,Nat.add_mul,Nat.mul_comm p 10,←Nat.mul_assoc,Nat.mul_comm q 10]
   have e2:(M*d+c)*p=M*(d*p)+c*p:=by rw[Nat.add_mul,Nat.mul_assoc]
   rw[Nat.mul_add]
   omega
theorem Zuq:∀k c:Nat,Qz (pad k c)=c % 10 ^ k
 | 0,c=>by simp[pad,Qz,Nat.mod_one]
 | k+1,c=>by
   rw[pad,Nk,Zuq k,Ee,Nat.pow_succ,Nat.mul_comm (10 ^ k) 10,Nat.mod_mul]
   simp[Qz];omega
theorem Ztv {l:List Nat} (hd:∀d∈l,d<10):Qz (Me l)=131072*Qz l∧(Me l).length=l.length+6∧∀d∈Me l,d<10:=by
 refine⟨?_,?_,?_⟩
 ·rw[Me,Nk,Zuq,Bg,Nat.mod_eq_of_lt (by have:=Zih l hd;omega)]
  exact Zqy l
 ·simp[Me,Zik,Bg];omega
 ·intro d h
  rcases List.mem_append.1 h with h | h
  ·exact Zou _ _ d h
  ·exact Zj3 _ d h
theorem Zmj:∀(l:List Nat) (N:Nat) (r:Bool),Lz 0 l N r=(N,r || decide (Qz l≠0))
 | [],N,r=>by simp[Lz,Qz]
 | d::l,N,r=>by
   rw[Lz,Zmj l,←Zsm,←Zsm];simp[Bool.or_assoc]
theorem Zpf:∀(k:Nat) (l:List Nat) (n:Nat) (r:Bool),k≤l.length→Lz k l (min n 1099511627776) r=(min (n*10 ^ k+Qz (l.take k)) 1099511627776,r || decide (Qz (l.drop k)≠0))
 | 0,l,n,r,_=>by rw[Zmj];simp only[Nat.pow_zero,Nat.mul_one,List.take_zero,List.drop_zero];rfl
 | k+1,[],n,r,h=>by simp at h
 | k+1,d::l,n,r,h=>by
   rw[Lz]
   have hm:min (10*min n 1099511627776+d) 1099511627776=min (10*n+d) 1099511627776:=by omega
   have hk:k≤l.length:=by simpa using h
   rw[hm,Zpf k l _ r hk,List.take_succ_cons,List.drop_succ_cons,Ee,List.length_take,Nat.min_eq_left hk,Nat.pow_succ]
   congr 2
   have e:(10*n+d)*10 ^ k=n*(10 ^ k*10)+d*10 ^ k:=by
    rw[Nat.add_mul];congr 1
    rw[Nat.mul_comm 10 n,Nat.mul_assoc,Nat.mul_comm 10]
   omega
theorem Zme {l:List Nat} (hd:∀d∈l,d<10) {k:Nat} (hk:k≤l.length):Qz (l.take k)=Qz l / 10 ^ (l.length - k)∧Qz (l.drop k)=Qz l % 10 ^ (l.length - k):=by
 have h1:Qz l=Qz (l.take k)*10 ^ (l.length - k)+Qz (l.drop k):=by
  have:=Nk (l.take k) (l.drop k)
  rwa[List.take_append_drop,List.length_drop]at this
 have h2:Qz (l.drop k)<10 ^ (l.length - k):=by
  have:=Oy (l:=l.drop k) (fun d h=>hd d (List.mem_of_mem_drop h))
  rwa[List.length_drop]at this
 have hp:0<10 ^ (l.length - k):=Nat.pow_pos (by omega)
 constructor
 ·rw[h1,Nat.mul_comm,Nat.mul_add_div hp,Nat.div_eq_of_lt h2];simp
 ·rw[h1,Nat.mul_comm,Nat.mul_add_mod,Nat.mod_eq_of_lt h2]
def Zae (l:List Nat) (ex:Int):Nat:=131072*Qz l*10 ^ ex.toNat / 10 ^ (-ex).toNat
def Zge (l:List Nat) (ex:Int):Bool:=decide (131072*Qz l*10 ^ ex.toNat % 10 ^ (-ex).toNat≠0)
theorem Zu1 {l:List Nat} (hd:∀d∈l,d<10) (ex:Int):Lz (((l.length+6:Nat):Int)+ex).toNat (Me l++List.replicate ex.toNat 0) 0 false=(min (Zae l ex) 1099511627776,Zge l ex):=by
 obtain⟨t1,t2,t3⟩:=Ztv hd
 generalize hL:Me l++List.replicate ex.toNat 0=L
 have hn:Qz L=131072*Qz l*10 ^ ex.toNat:=by
  rw[←hL,Nk,Oz,t1];simp
 have hlen:L.length=l.length+6+ex.toNat:=by rw[←hL];simp[t2]
 have hLd:∀d∈L,d<10:=by
  intro d h
  rw[←hL]at h
  rcases List.mem_append.1 h with h | h
  ·exact t3 d h
  ·rw[List.eq_of_mem_replicate h];omega
 generalize hC:(((l.length+6:Nat):Int)+ex).toNat=C
 have hCL:C≤L.length:=by omega
 have h0:=Zpf C L 0 false hCL
 rw[show min 0 1099511627776=0 from rfl]at h0
 rw[h0]
 obtain⟨k1,k2⟩:=Zme hLd hCL
 simp only[Nat.zero_mul,Nat.zero_add,Bool.false_or]
 unfold Zae Zge
 rw[k1,k2,←hn]
 by_cases hpos:0≤((l.length+6:Nat):Int)+ex
 ·rw[show L.length - C=(-ex).toNat by omega]
 ·have hlt:=Oy hLd
  have e0:L.length - C=L.length:=by omega
  have hle:L.length≤(-ex).toNat:=by omega
  have hlt2:=Nat.lt_of_lt_of_le hlt (Nat.pow_le_pow_right (show 0<10 by omega) hle)
  rw[e0,Nat.div_eq_of_lt hlt,Nat.div_eq_of_lt hlt2,Nat.mod_eq_of_lt hlt,Nat.mod_eq_of_lt hlt2]
theorem Zch:∀(l:List Nat) (n:Nat),n≤2147483648→(2147483648<Yh n l↔2147483648<n*10 ^ l.length+Qz l)∧(Yh n l≤2147483648→Yh n l=n*10 ^ l.length+Qz l)
 | [],n,h=>by simp[Yh,Qz]
 | d::l,n,h=>by
   have e:(10*n+d)*10 ^ l.length=n*10 ^ (l.length+1)+d*10 ^ l.length:=by
    rw[Nat.add_mul,Nat.pow_succ];congr 1
    rw[Nat.mul_comm 10 n,Nat.mul_assoc,Nat.mul_comm 10]
   have hp:1≤10 ^ l.length:=Nat.pow_pos (by omega)
   rw[Yh,Ee,List.length_cons]
   split
   ·rename_i hb
    have:=Nat.mul_le_mul (Nat.le_refl (10*n+d)) hp
    refine⟨⟨fun _=>by omega,fun _=>hb⟩,fun h=>by omega⟩
   ·have ih:=Zch l (10*n+d) (by omega)
    rw[e,Nat.add_assoc]at ih
    exact ih
theorem Zjg (l:List Nat):∀n,(List.range n).map (fun i=>l.getD i 0)=l.take n++List.replicate (n - l.length) 0
 | 0=>by simp
 | n+1=>by
   rw[List.range_succ,List.map_append,Zjg l n]
   by_cases h:n<l.length
   ·rw[show n - l.length=0 by omega,show n+1 - l.length=0 by omega,List.take_add_one]
    simp[List.getElem?_eq_getElem h]
   ·rw[List.take_of_length_le (by omega),List.take_of_length_le (by omega),show n+1 - l.length=(n - l.length)+1 by omega,List.replicate_succ']
    simp[List.getElem?_eq_none (show l.length≤n by omega)]
theorem Zm4 {l:List Nat} (pt:Int):Qz (Hu l pt)*10 ^ (W8 l pt).length+Qz (W8 l pt)=Qz l*10 ^ (pt - (l.length:Int)).toNat∧(W8 l pt).length=(-(pt - (l.length:Int))).toNat:=by
 unfold Hu W8
 rw[Zjg]
 have hlen:(List.replicate (-pt).toNat 0++l.drop pt.toNat).length=(-(pt - (l.length:Int))).toNat:=by
  simp;omega
 refine⟨?_,hlen⟩
 rw[hlen]
 by_cases h0:pt<0
 ·rw[show pt.toNat=0 by omega,show (pt - (l.length:Int)).toNat=0 by omega]
  rw[Nk (List.replicate (-pt).toNat 0),Oz]
  simp[Qz]
 ·rw[show (-pt).toNat=0 by omega]
  by_cases h1:pt.toNat≤l.length
  ·have:=Nk (l.take pt.toNat) (l.drop pt.toNat)
   rw[List.take_append_drop,List.length_drop]at this
   rw[show pt.toNat - l.length=0 by omega,show (pt - (l.length:Int)).toNat=0 by omega,show (-(pt - (l.length:Int))).toNat=l.length - pt.toNat by omega]
   simp[this]
  ·rw[List.take_of_length_le (by omega),List.drop_of_length_le (by omega),Nk,Oz,List.length_replicate,show (-(pt - (l.length:Int))).toNat=0 by omega,show pt.toNat - l.length=(pt - (l.length:Int)).toNat by omega]
   simp[Qz]
theorem Zsn {l:List Nat} {pt:Int} (hd:∀d∈l,d<10) (hf:Yh 0 (Hu l pt)≤2147483648):Zae l (pt - (l.length:Int))=2*(Mg 16 (Yh 0 (Hu l pt)) (W8 l pt)).1+(dbl (Mg 16 (Yh 0 (Hu l pt)) (W8 l pt)).2).1∧
  Zge l (pt - (l.length:Int))=((dbl (Mg 16 (Yh 0 (Hu l pt)) (W8 l pt)).2).2.any fun d=>decide (d≠0)):=by
 obtain⟨p1,p2⟩:=Zm4 (l:=l) pt
 have hF:=(Zch (Hu l pt) 0 (by omega)).2 hf
 rw[Nat.zero_mul,Nat.zero_add]at hF
 rw[hF]
 have hfd:∀d∈W8 l pt,d<10:=by
  intro d h
  unfold W8 at h
  rcases List.mem_append.1 h with h | h
  ·rw[List.eq_of_mem_replicate h];omega
  ·exact hd d (List.mem_of_mem_drop h)
 generalize Hu l pt=I at*
 generalize W8 l pt=f at*
 obtain⟨b1,b2⟩:=Zmm 16 (Qz I) f
 generalize Mg 16 (Qz I) f=b at*
 have d1:=Zno b.2
 have d2:=Oy (l:=(dbl b.2).2) (Zi3 b.2)
 rw[Ff]at d2
 rw[b2]at d1 d2
 rw[Zsm]
 unfold Zae Zge
 rw[←p2]
 have e:131072*Qz l*10 ^ (pt - (l.length:Int)).toNat=10 ^ f.length*(2*b.1+(dbl b.2).1)+Qz (dbl b.2).2:=by
  rw[Nat.mul_assoc,←p1,Nat.mul_add (10 ^ f.length),Nat.mul_comm (10 ^ f.length),Nat.mul_comm (10 ^ f.length),Nat.mul_assoc 2]
  have e2:(Qz I*10 ^ f.length+Qz f)*2 ^ 16=65536*(Qz I*10 ^ f.length+Qz f):=Nat.mul_comm _ _
  generalize Qz I*10 ^ f.length+Qz f=Y at*
  generalize b.1*10 ^ f.length=A at*
  generalize (dbl b.2).1*10 ^ f.length=C at*
  omega
 rw[e]
 have hp:0<10 ^ f.length:=Nat.pow_pos (by omega)
 rw[Nat.mul_add_div hp,Nat.div_eq_of_lt d2,Nat.mul_add_mod,Nat.mod_eq_of_lt d2]
 simp
theorem Zp7 {l:List Nat} {pt:Int} (hf:2147483648<Yh 0 (Hu l pt)):1099511627776≤Zae l (pt - (l.length:Int)):=by
 obtain⟨p1,p2⟩:=Zm4 (l:=l) pt
 have hF:=(Zch (Hu l pt) 0 (by omega)).1.1 hf
 rw[Nat.zero_mul,Nat.zero_add]at hF
 unfold Zae
 rw[←p2,Nat.mul_assoc,←p1]
 have hp:0<10 ^ (W8 l pt).length:=Nat.pow_pos (by omega)
 rw[Nat.le_div_iff_mul_le hp,Nat.mul_add]
 generalize 10 ^ (W8 l pt).length=p at*
 have:=Nat.mul_le_mul (show 8388608≤Qz (Hu l pt)by omega) (Nat.le_refl p)
 generalize Qz (Hu l pt)*p=A at*
 generalize Qz (W8 l pt)=B at*
 omega
theorem Zml:∀(m n:Nat) (l:List Nat),(∀d∈l,d<10)→∀d∈(Mg m n l).2,d<10
 | 0,n,l,h=>h
 | m+1,n,l,h=>Zml m _ _ (Zi3 l)
theorem Zvk {l:List Nat} (hd:∀d∈l,d<10) (pt:Int):∀d∈W8 l pt,d<10:=by
 intro d h
 unfold W8 at h
 rcases List.mem_append.1 h with h | h
 ·rw[List.eq_of_mem_replicate h];omega
 ·exact hd d (List.mem_of_mem_drop h)
theorem Zto {u B c:Nat} (h:u=2*B+c) (hc:c≤1) (neg r:Bool):(let n:=if c=1∧(neg=false∨r=true)then B+1 else B;let v:Int:=if neg=true then -(n:Int)else n;if -2147483648≤v∧v≤2147483648 then some v else none)=
  (let R:=((if neg=true then(if r=true then -((min u 1099511627776:Nat):Int) - 1 else -((min u 1099511627776:Nat):Int))else((min u 1099511627776:Nat):Int))+1) / 2;if -2147483648≤R∧R≤2147483648 then some R else none):=by
 have hc:c=0∨c=1:=by omega
 by_cases hu:u≤1099511627776
 ·rw[Nat.min_eq_left hu]
  have key:∀v w:Int,v=w→(if -2147483648≤v∧v≤2147483648 then some v else none)=(if -2147483648≤w∧w≤2147483648 then some w else none):=by rintro v _ rfl;rfl
  apply key
  rcases hc with rfl | rfl <;> cases neg <;> cases r <;> simp <;> omega
 ·rw[Nat.min_eq_right (by omega)]
  have key:∀v w:Int,¬(-2147483648≤v∧v≤2147483648)→¬(-2147483648≤w∧w≤2147483648)→(if -2147483648≤v∧v≤2147483648 then some v else none)=(if -2147483648≤w∧w≤2147483648 then some w else none):=by intro v w h1 h2;rw[if_neg h1,if_neg h2]
  apply key
  ·rcases hc with rfl | rfl <;> cases neg <;> cases r <;> simp <;> omega
  ·cases neg <;> cases r <;> simp
theorem Zaas {l:List Nat} (hd:∀d∈l,d<10) (neg:Bool) (pt:Int):Zmi neg l pt=if -2147483648≤Ru neg l (pt - l.length)∧Ru neg l (pt - l.length)≤2147483648 then some (Ru neg l (pt - l.length))else none:=by
 have ha:=Zu1 hd (pt - l.length)
 unfold Zmi Ru
 rw[ha]
 by_cases hf:2147483648<Yh 0 (Hu l pt)
 ·have hu:=Zp7 hf
  rw[if_pos hf,if_neg]
  generalize Zae l (pt - (l.length:Int))=u at*
  generalize Zge l (pt - (l.length:Int))=r at*
  rw[Nat.min_eq_right hu]
  cases neg <;> cases r <;> simp
 ·rw[if_neg hf]
  obtain⟨u1,u2⟩:=Zsn hd (Nat.not_lt.1 hf)
  have c1:=Cw _ (Zml 16 (Yh 0 (Hu l pt)) _ (Zvk hd pt))
  clear ha hf hd
  dsimp only
  generalize Mg 16 (Yh 0 (Hu l pt)) (W8 l pt)=b at*
  generalize Zae l (pt - (l.length:Int))=u at*
  generalize Zge l (pt - (l.length:Int))=r at*
  subst u2
  generalize ((dbl b.2).2.any fun d=>decide (d≠0))=r at*
  generalize (dbl b.2).1=c at*
  generalize b.1=B at*
  have h:=Zto u1 c1 neg r
  dsimp only at h
  exact h
end Go.Ev

/- LexNumbers: the marks, drawn into a text. -/
namespace Go.Ev
open Go
variable {T : Tab} {st : St}
end Go.Ev

/- LexNumbers told, if Number and Word are the reference's. -/
namespace Go.Ev
open Go
variable {T : Tab} {st : St}
end Go.Ev

/- The plain law of numbers: the mark's decimals and the reference's. -/
namespace Go.Ev
open Go
theorem Zrs (s:List UInt8):s.length≤(sgn s).2.length+1:=by
 cases s with
 | nil=>simp
 | cons c r=>
   simp only[sgn]
   split
   ·simp
   ·split <;> simp
theorem Znd {α:Type} (l:List α):l.length≤l.tail.length+1:=by cases l <;> simp
theorem Zwl {s:List UInt8} (h:H5 s≠none):(Z3 false true s).length≤12:=by
 have ht:H5 (Z3 false true s)≠none:=fun hn=>h ((Oc s).1 hn)
 have q1:=Zha s
 obtain⟨a1,_,a3⟩:=E1 (sgn s).2
 generalize hT:Z3 false true s=t at*
 have l1:=Zrs t
 have l2:=Wv (sgn t).2
 have hs2:(sgn t).2=Z3 false true (sgn s).2:=by rw[q1]
 rw[←hs2]at a1 a3
 have hR:(Zw (sgn t).2).2.length≤(H6 t).length+2:=by
  unfold H6
  split
  ·rename_i hp
   have hp':K4 [46] (Zw (sgn s).2).2=true:=by
    rw[a1,(O9 _).2]at hp;exact hp
   have e:=Ze8 hp'
   rw[a1,e]
   obtain⟨_,_,b3⟩:=E1 (Zw (sgn s).2).2.tail
   have l3:=Wv (Z3 false true (Zw (sgn s).2).2.tail)
   have l4:=Znd (Z3 false true (Zw (sgn s).2).2)
   rw[e]at l4
   omega
  ·omega
 have hE:(H6 t).length≤5:=by
  unfold H5 at ht
  split at ht
  ·exact absurd rfl ht
  ·split at ht
   ·split at ht
    ·exact absurd rfl ht
    ·rename_i hb
     split at ht
     ·rename_i hz
      have l5:=Znd (H6 t)
      have l6:=Zrs (H6 t).tail
      have l7:=Wv (sgn (H6 t).tail).2
      rw[hz]at l7
      simp only[List.length_nil]at l7
      omega
     ·exact absurd rfl ht
   ·split at ht
    ·rename_i hz;simp[hz]
    ·exact absurd rfl ht
 omega
theorem Zg4 {t:List UInt8} (hl:t.length≤40):(H5 t=none→(Wo t).2=5)∧(H5 t≠none→(Wo t).2=0∨(Wo t).2=6):=by
 unfold Wo
 rw[if_neg (by omega)]
 cases H5 t with
 | none=>simp
 | some q=>
   obtain⟨neg,l,pt⟩:=q
   refine⟨fun h=>(by cases h),fun _=> ?_⟩
   simp only
   split
   ·exact .inl rfl
   ·exact .inr rfl
theorem Zz3 (s:List UInt8):Zq6 s=(H5 s).isSome:=by
 unfold Zq6
 cases hd:H5 s with
 | none=>
   have h0:=(Oc s).2 hd
   by_cases hl:41<(Z3 false true s).length
   ·simp[hl]
   ·have h:(Wo (Z3 false true s)).2=5∨(Wo (Z3 false true s)).2=3:=by
     by_cases h40:(Z3 false true s).length≤40
     ·exact .inl ((Zg4 h40).1 h0)
     ·unfold Wo;rw[if_pos (by omega)];exact .inr rfl
    rcases h with h | h <;> simp[h]
 | some p=>
   have hl:=Zwl (s:=s) (by rw[hd];simp)
   have hn:H5 (Z3 false true s)≠none:=fun h=>by rw[(Oc s).1 h]at hd;cases hd
   rcases(Zg4 (by omega)).2 hn with h | h <;> simp[h] <;> omega
theorem Zv0 (s:List UInt8):Wo s=L8 s:=by
 unfold Wo L8
 split
 ·rfl
 ·rw[Zut]
  cases hd:H5 s with
  | none=>rfl
  | some p=>
    obtain⟨neg,l,pt⟩:=p
    have:=Zaas (Zi4 hd).2.1 neg pt
    show (match Zmi neg l pt with | some v=>(v,(0:Int)) | none=>(0,6))=if -2147483648≤Ru neg l (pt - l.length)∧Ru neg l (pt - l.length)≤2147483648 then(Ru neg l (pt - l.length),0)else(0,6)
    rw[this]
    by_cases hP: -2147483648≤Ru neg l (pt - l.length)∧Ru neg l (pt - l.length)≤2147483648
    ·rw[if_pos hP,if_pos hP]
    ·rw[if_neg hP,if_neg hP]
theorem Zzf {s:List UInt8} (h:¬0≤X6 10 (Jp s).1):(match Dn s with
   | none=>((0,0,5):Tk)
   | some _=>if(L8 s).2≠0 then(0,0,26)else(2,(L8 s).1,0))=Znq s:=by
 unfold Znq
 rw[Zz3,Zut,Zv0]
 cases hd:H5 s with
 | none=>simp
 | some p=>
   have ha:X3 [46,101,69] s=true:=by
    cases ha:X3 [46,101,69] s with
    | true=>rfl
    | false=>exact absurd (Zv1 ha (by rw[hd];simp)) h
   simp[ha]
theorem Zum (s:List UInt8):Zlx s=Zde s:=by
 unfold Zde Zlx
 rw[Zww,Zv6]
 by_cases h:0≤X6 10 (Jp s).1
 ·simp only[if_pos h]
  rw[if_pos (Zfi _ _)]
 ·have hd:=Zzf h
  simp only[if_neg h]
  cases U3 s 1 with
  | some n=>simp[Zfi]
  | none=>
    cases U3 s 2 with
    | some n=>simp[Zfi]
    | none=>exact hd.trans (by simp)
theorem Zyt (s:List UInt8):Zkz s=Bu s:=by
 unfold Zkz Bu
 rw[Zum]
end Go.Ev

/- The abstract bodies of the functions, printed by a program of this work. -/
namespace Go.Ev.B
open Go
def Kj:Zx:=(.seq (.Zi [1,2,3,4,5]) (.seq (.seq (.Zd [p 37 (.Za 5),p 38 (.Zj 2 1),r 39 (.load none 38),p 40 (.lenOf true 39),p 41 (.bin .lss
 37 40),p 42 (.Za 41),pg 43 42 true (.Za 5),pg 44 42 true (.bin .lss 43 (.k (.int .i64 20))),p 45 (.pick 42 44 (.k (.bool false)))]) (.cond 45 .skip (.exit 1))) (.seq (.Zi [1,
 2,3,4,5]) (.seq (.block 2 (.seq (.Zd [p 48 (.Zj 2 1),r 49 (.load none 48),p 50 (.Za 5),p 51 (.Q4 49 50),w 52 (.call (.k (.fn 68 [] [])) [51])]) (.cond 52 (.Zd [p 53 (.Za
 4),p 54 (.Zj 2 1),r 55 (.load none 54),p 56 (.Za 5),p 57 (.Q4 55 56),n 58 (.Qo 5 1 [(.int .u8 0)] [(0,1,57)]),w 59 (.append 5 1 1 [(.int .u8 0)] 53 58),p 4 (.Za
 59)]) .skip))) (.seq (.Zi [1,2,3,4,5]) (.Zd [p 46 (.Za 5),p 47 (.bin .add 46 (.k (.int .i64 1))),p 5 (.Za 47)]))))))
def Z0:Z8:=⟨1,[.cell 2 (some 3)],(.seq (.Zd [n 1 (.box 205 true 0),n 2 (.alloc 134 true [(.int .i64 0),(.int .i64 0),(.str [])])]) (.seq (.Zd [p 7 (.Zj
 0 1),r 8 (.load none 7),p 9 (.bin .rem 8 (.k (.int .u8 8))),p 10 (.conv .i64 9),p 11 (.bin .add (.k (.int .i64 1)) 10),p 3 (.Za 11)]) (.seq (.seq (.Zd [p 12 (.Za 3)]) (.block
 0 (.seq (.seq (.Zd [p 14 (.bin .eql 12 (.k (.int .i64 1))),p 13 (.Za 14)]) (.cond 13 .skip (.Zd [p 15 (.bin .eql 12 (.k (.int .i64 2))),p 13 (.Za 15)]))) (.cond 13 (.seq (.Zd
 [p 16 (.Za 3),p 17 (.Zj 1 1),r 18 (.load none 17),p 19 (.conv .i64 18),p 20 (.build [(.int .i64 0),(.int .i64 0),(.str [])] [(0,1,16),(1,1,19)]),w0 (.store 3 2 20)])
 .ret) (.seq (.Zd [p 22 (.bin .eql 12 (.k (.int .i64 6))),p 21 (.Za 22)]) (.cond 21 (.seq (.Zd [p 23 (.Za 3),p 24 (.Zj 2 1),r 25 (.load none 24),p 26 (.Zj 2 1),r 27 (.load
 none 26),p 28 (.lenOf true 27),p 29 (.Dy false [28,(.k (.int .i64 60))]),p 30 (.Lg 25 none (some 29)),p 31 (.build [(.int .i64 0),(.int .i64 0),(.str [])] [(0,1,23),
 (2,1,30)]),w0 (.store 3 2 31)]) .ret) (.seq (.seq (.Zd [p 33 (.bin .eql 12 (.k (.int .i64 7))),p 32 (.Za 33)]) (.cond 32 .skip (.Zd [p 34 (.bin .eql 12 (.k (.int .i64 8))),p
 32 (.Za 34)]))) (.cond 32 (.seq (.Zd [p 35 (.Za 3),p 36 (.build [(.int .i64 0),(.int .i64 0),(.str [])] [(0,1,35)]),w0 (.store 3 2 36)]) .ret) .skip)))))))) (.seq (.Zi [1,
 2,3]) (.seq (.Zd [p 4 (.Za (.k .Zk))]) (.seq (.seq (.Zd [p 5 (.Za (.k (.int .i64 0)))]) (.block 1 (.loop Kj))) (.seq (.Zi [1,2,3,4]) (.seq (.Zd
 [p 60 (.Za 3),p 61 (.Za 4),r 62 (.b2s 61),p 63 (.build [(.int .i64 0),(.int .i64 0),(.str [])] [(0,1,60),(2,1,62)]),n 6 (.alloc 134 true [(.int .i64 0),(.int .i64 0),
 (.str [])]),w0 (.store 3 6 63)]) (.seq (.seq (.Zd [p 64 (.Za 3),p 65 (.bin .eql 64 (.k (.int .i64 3))),p 66 (.Za 65),rg 67 66 true (.load (some 3) 6),wg 68 66 true (.call (.k
 (.fn 129 [] [])) [67]),pg 69 66 true (.un .not 68),p 70 (.pick 66 69 (.k (.bool false)))]) (.cond 70 (.Zd [n 71 (.Qo 9 7 [(.str []),(.str []),(.str []),(.str []),(.str []),
 (.str []),(.str [])] [(0,1,(.k (.str [97]))),(1,1,(.k (.str [91]))),(2,1,(.k (.str [93]))),(3,1,(.k (.str [60,60]))),(4,1,(.k (.str [62,62]))),(5,1,(.k (.str [120,
 45,49]))),(6,1,(.k (.str [61])))]),p 72 (.Zj 0 1),r 73 (.load none 72),p 74 (.bin .quo 73 (.k (.int .u8 8))),p 75 (.bin .rem 74 (.k (.int .u8 7))),p 76 (.Vn 1 71 75),
 r 77 (.load none 76),p 78 (.Zj 2 6),w0 (.store 1 78 77)]) .skip)) (.seq (.Zi [2,6]) (.seq (.Zd [r 79 (.load (some 3) 6),w0 (.store 3 2 79)]) .ret)))))))))))⟩
def Aq:Z8:=⟨1,[.t 2,.t 3],(.seq (.Zd [n 1 (.box 134 true 0),p 2 (.Za (.k (.str []))),p 3 (.Za (.k (.int .i64 0)))]) (.seq (.seq (.Zd [r 5 (.load (some 3) 1),w
 6 (.call (.k (.fn 74 [] [])) [5]),p 4 (.Za 6)]) (.seq (.Zd [p 7 (.Za 4),p 8 (.bin .neq 7 (.k (.int .i64 0)))]) (.cond 8 (.seq (.Zd [p 9 (.Za 4),p 2 (.Za (.k (.str []))),p
 3 (.Za 9)]) .ret) .skip))) (.seq (.Zi [1]) (.seq (.seq (.Zd [p 10 (.Zj 0 1),r 11 (.load none 10)]) (.block 0 (.seq (.Zd [p 13 (.bin .eql 11 (.k (.int .i64 1))),p 12 (.Za
 13)]) (.cond 12 (.seq (.Zd [p 14 (.Zj 1 1),r 15 (.load none 14),w 16 (.call (.k (.fn 132 [] [])) [15]),p 2 (.Za 16),p 3 (.Za (.k (.int .i64 0)))]) .ret) (.seq (.Zd [p 18
 (.bin .eql 11 (.k (.int .i64 2))),p 17 (.Za 18)]) (.cond 17 (.seq (.Zd [p 19 (.Zj 1 1),r 20 (.load none 19),w 21 (.call (.k (.fn 133 [] [])) [20]),p 22 (.Zt 0 21),p 23 (.Zt
 1 21),p 2 (.Za 22),p 3 (.Za 23)]) .ret) (.seq (.Zd [p 25 (.bin .eql 11 (.k (.int .i64 4))),p 24 (.Za 25)]) (.cond 24 (.seq (.Zd [p 26 (.Zj 2 1),r 27 (.load none 26),p 28
 (.bin .add (.k (.str [47])) 27),p 2 (.Za 28),p 3 (.Za (.k (.int .i64 0)))]) .ret) (.seq (.Zd [p 30 (.bin .eql 11 (.k (.int .i64 5))),p 29 (.Za 30)]) (.cond 29 (.seq (.Zd [p
 31 (.Zj 2 1),r 32 (.load none 31),p 33 (.bin .add (.k (.str [47,47])) 32),p 2 (.Za 33),p 3 (.Za (.k (.int .i64 0)))]) .ret) (.seq (.Zd [p 35 (.bin .eql 11 (.k (.int .i64
 6))),p 34 (.Za 35)]) (.cond 34 (.seq (.Zd [p 36 (.Zj 2 1),r 37 (.load none 36),w 38 (.call (.k (.fn 71 [] [])) [37]),p 2 (.Za 38),p 3 (.Za (.k (.int .i64 0)))]) .ret) (.seq
 (.Zd [p 40 (.bin .eql 11 (.k (.int .i64 7))),p 39 (.Za 40)]) (.cond 39 (.seq (.Zd [p 2 (.Za (.k (.str [123]))),p 3 (.Za (.k (.int .i64 0)))]) .ret) (.seq (.Zd [p 42 (.bin .eql
 11 (.k (.int .i64 8))),p 41 (.Za 42)]) (.cond 41 (.seq (.Zd [p 2 (.Za (.k (.str [125]))),p 3 (.Za (.k (.int .i64 0)))]) .ret) .skip)))))))))))))))) (.seq (.Zi [1]) (.seq (.Zd
 [p 43 (.Zj 2 1),r 44 (.load none 43),p 2 (.Za 44),p 3 (.Za (.k (.int .i64 0)))]) .ret))))))⟩
def Z4:Z8:=⟨1,[.t 2],(.seq (.Zd [n 1 (.box 134 true 0),p 2 (.Za (.k (.bool false)))]) (.seq (.seq (.Zd [p 5 (.Zj 0 1),r 6 (.load none 5),p 7 (.bin .neq
 6 (.k (.int .i64 1))),p 8 (.Za 7),pg 9 8 true (.Zj 0 1),rg 10 8 true (.load none 9),pg 11 8 true (.bin .neq 10 (.k (.int .i64 2))),p 12 (.pick 8 11 (.k (.bool false))),p 13
 (.Za 12),pg 14 13 true (.Zj 1 1),rg 15 13 true (.load none 14),pg 16 13 true (.bin .neq 15 (.k (.int .i64 0))),p 17 (.pick 13 16 (.k (.bool false)))]) (.seq (.Zi [1,17])
 (.cond 17 (.seq (.Zd [p 2 (.Za (.k (.bool false)))]) .ret) .skip))) (.seq (.Zi [1]) (.seq (.seq (.Zd [p 18 (.Zj 0 1),r 19 (.load none 18)]) (.block 0 (.seq (.Zd [p 21 (.bin
 .eql 19 (.k (.int .i64 1))),p 20 (.Za 21)]) (.cond 20 (.seq (.Zd [p 22 (.Zj 2 1),r 23 (.load none 22),p 24 (.bin .eql 23 (.k (.str []))),p 25 (.Za 24),pg 26 25 true (.Zj
 1 1),rg 27 25 true (.load none 26),pg 28 25 true (.bin .geq 27 (.k (.int .i64 (-2147483648)))),p 29 (.pick 25 28 (.k (.bool false))),p 30 (.Za 29),pg 31 30 true (.Zj 1 1),
 rg 32 30 true (.load none 31),pg 33 30 true (.bin .leq 32 (.k (.int .i64 2147483647))),p 34 (.pick 30 33 (.k (.bool false))),p 2 (.Za 34)]) .ret) (.seq (.Zd [p 36 (.bin .eql 19
 (.k (.int .i64 2))),p 35 (.Za 36)]) (.cond 35 (.seq (.Zd [p 37 (.Zj 2 1),r 38 (.load none 37),p 39 (.bin .eql 38 (.k (.str []))),p 40 (.Za 39),pg 41 40 true (.Zj 1 1),
 rg 42 40 true (.load none 41),wg 43 40 true (.call (.k (.fn 105 [] [])) [42]),p 44 (.pick 40 43 (.k (.bool false))),p 2 (.Za 44)]) .ret) (.seq (.Zd [p 46 (.bin .eql 19 (.k (.int
 .i64 3))),p 45 (.Za 46)]) (.cond 45 (.seq (.seq (.Zd [p 47 (.Zj 2 1),r 48 (.load none 47),p 49 (.bin .eql 48 (.k (.str [91]))),p 50 (.Za 49),pg 51 50 false (.Zj 2 1),
 rg 52 50 false (.load none 51),pg 53 50 false (.bin .eql 52 (.k (.str [93]))),p 54 (.pick 50 (.k (.bool true)) 53),p 55 (.Za 54),pg 56 55 false (.Zj 2 1),rg 57 55 false (.load
 none 56),pg 58 55 false (.bin .eql 57 (.k (.str [60,60]))),p 59 (.pick 55 (.k (.bool true)) 58),p 60 (.Za 59),pg 61 60 false (.Zj 2 1),rg 62 60 false (.load none 61),pg 63
 60 false (.bin .eql 62 (.k (.str [62,62]))),p 64 (.pick 60 (.k (.bool true)) 63)]) (.seq (.Zi [1,64]) (.cond 64 (.seq (.Zd [p 2 (.Za (.k (.bool true)))]) .ret) .skip))) (.seq
 (.Zi [1]) (.seq (.Zd [p 66 (.Zj 2 1),r 67 (.load none 66),w 68 (.call (.k (.fn 64 [] [])) [67]),p 65 (.Za 68),p 69 (.Zt 0 65),p 70 (.Zt 1 65),n 3 (.alloc 134 true [(.int
 .i64 0),(.int .i64 0),(.str [])]),w0 (.store 3 3 69),p 4 (.Za 70)]) (.seq (.Zi [1,4]) (.seq (.Zd [p 71 (.Zj 2 1),r 72 (.load none 71),p 73 (.bin .neq 72 (.k (.str []))),
 p 74 (.Za 73),pg 75 74 true (.Zj 2 1),rg 76 74 true (.load none 75),pg 77 74 true (.lenOf true 76),pg 78 74 true (.bin .leq 77 (.k (.int .i64 100))),p 79 (.pick 74 78 (.k (.bool
 false))),p 80 (.Za 79),pg 81 80 true (.Zj 2 1),rg 82 80 true (.load none 81),wg 83 80 true (.call (.k (.fn 83 [] [])) [82]),p 84 (.pick 80 83 (.k (.bool false))),p 85 (.Za
 84),pg 86 85 true (.Za 4),pg 87 85 true (.bin .eql 86 (.k (.int .i64 5))),p 88 (.pick 85 87 (.k (.bool false))),p 2 (.Za 88)]) .ret))))) (.seq (.seq (.Zd [p 90 (.bin .eql 19
 (.k (.int .i64 4))),p 89 (.Za 90)]) (.cond 89 .skip (.Zd [p 91 (.bin .eql 19 (.k (.int .i64 5))),p 89 (.Za 91)]))) (.cond 89 (.seq (.Zd [p 92 (.Zj 2 1),r 93 (.load none 92),
 p 94 (.lenOf true 93),p 95 (.bin .leq 94 (.k (.int .i64 100))),p 96 (.Za 95),pg 97 96 true (.Zj 2 1),rg 98 96 true (.load none 97),wg 99 96 true (.call (.k (.fn 83 [] []))
 [98]),p 100 (.pick 96 99 (.k (.bool false))),p 2 (.Za 100)]) .ret) (.seq (.Zd [p 102 (.bin .eql 19 (.k (.int .i64 6))),p 101 (.Za 102)]) (.cond 101 (.seq (.Zd [p 103 (.Zj
 2 1),r 104 (.load none 103),p 105 (.lenOf true 104),p 106 (.bin .leq 105 (.k (.int .i64 1000))),p 2 (.Za 106)]) .ret) (.seq (.seq (.Zd [p 108 (.bin .eql 19 (.k (.int .i64 7))),
 p 107 (.Za 108)]) (.cond 107 .skip (.Zd [p 109 (.bin .eql 19 (.k (.int .i64 8))),p 107 (.Za 109)]))) (.cond 107 (.seq (.Zd [p 110 (.Zj 2 1),r 111 (.load none 110),p 112 (.bin
 .eql 111 (.k (.str []))),p 2 (.Za 112)]) .ret) .skip)))))))))))))) (.seq (.Zi []) (.seq (.Zd [p 2 (.Za (.k (.bool false)))]) .ret))))))⟩
def Jc:Z8:=⟨1,[.t 2],(.seq (.Zd [n 1 (.box 134 true 0),p 2 (.Za (.k (.str [])))]) (.seq (.seq (.Zd [p 3 (.Zj 0 1),r 4 (.load none 3)]) (.block 0 (.seq (.Zd
 [p 6 (.bin .eql 4 (.k (.int .i64 1))),p 5 (.Za 6)]) (.cond 5 (.seq (.Zd [p 7 (.Zj 1 1),r 8 (.load none 7),w 9 (.call (.k (.fn 134 [] [])) [8]),p 2 (.Za 9)]) .ret) (.seq (.Zd
 [p 11 (.bin .eql 4 (.k (.int .i64 2))),p 10 (.Za 11)]) (.cond 10 (.seq (.Zd [p 12 (.Zj 1 1),r 13 (.load none 12),w 14 (.call (.k (.fn 135 [] [])) [13]),p 2 (.Za 14)]) .ret)
 (.seq (.Zd [p 16 (.bin .eql 4 (.k (.int .i64 4))),p 15 (.Za 16)]) (.cond 15 (.seq (.Zd [p 17 (.Zj 2 1),r 18 (.load none 17),p 19 (.bin .add (.k (.str [47])) 18),p 2 (.Za
 19)]) .ret) (.seq (.Zd [p 21 (.bin .eql 4 (.k (.int .i64 5))),p 20 (.Za 21)]) (.cond 20 (.seq (.Zd [p 22 (.Zj 2 1),r 23 (.load none 22),p 24 (.bin .add (.k (.str [47,47]))
 23),p 2 (.Za 24)]) .ret) (.seq (.Zd [p 26 (.bin .eql 4 (.k (.int .i64 6))),p 25 (.Za 26)]) (.cond 25 (.seq (.Zd [p 27 (.Zj 2 1),r 28 (.load none 27),w 29 (.call (.k (.fn
 72 [] [])) [28]),p 2 (.Za 29)]) .ret) (.seq (.Zd [p 31 (.bin .eql 4 (.k (.int .i64 7))),p 30 (.Za 31)]) (.cond 30 (.seq (.Zd [p 2 (.Za (.k (.str [123])))]) .ret) (.seq (.Zd
 [p 33 (.bin .eql 4 (.k (.int .i64 8))),p 32 (.Za 33)]) (.cond 32 (.seq (.Zd [p 2 (.Za (.k (.str [125])))]) .ret) .skip)))))))))))))))) (.seq (.Zi [1]) (.seq (.Zd [p 34 (.Zj
 2 1),r 35 (.load none 34),p 2 (.Za 35)]) .ret))))⟩
def O5:Z8:=⟨1,[.t 2,.t 3],(.seq (.Zd [n 1 (.box 3 true 0),p 2 (.Za (.k (.str []))),p 3 (.Za (.k (.int .i64 0)))]) (.seq (.Zd [p 4 (.Zbu 136 [] [1]),r 5 (.load
 none 1),n 6 (.Qo 3 1 [(.int .i64 0)] [(0,1,5)]),w 7 (.call (.k (.fn 137 [] [])) [4,6]),p 8 (.Zt 0 7),p 9 (.Zt 1 7),p 2 (.Za 8),p 3 (.Za 9)]) .ret))⟩
def J7:Z8:=⟨1,[.t 2],(.seq (.Zd [p 2 (.Za (.k (.str [])))]) (.seq (.seq (.Zd [p 3 (.Za 0),p 4 (.bin .lss 3 (.k (.int .i64 0)))]) (.cond 4 (.seq (.Zd [p
 5 (.Za 0),p 6 (.un .neg 5),w 7 (.call (.k (.fn 134 [] [])) [6]),p 8 (.bin .add (.k (.str [45])) 7),p 2 (.Za 8)]) .ret) .skip)) (.seq (.seq (.Zd [p 9 (.Za 0),p 10 (.bin .lss
 9 (.k (.int .i64 10)))]) (.cond 10 (.seq (.Zd [p 11 (.Za 0),p 12 (.bin .add (.k (.int .i64 48)) 11),p 13 (.conv .u8 12),n 14 (.Qo 5 1 [(.int .u8 0)] [(0,1,13)]),r 15 (.b2s
 14),p 2 (.Za 15)]) .ret) .skip)) (.seq (.Zi [0]) (.seq (.Y7 [.op 0 (p 16 (.Za 0)),.op 1 (p 17 (.bin .quo 16 (.k (.int .i64 10)))),.op 2 (w 18 (.call (.k (.fn 134 [] [])) [17])),
 .op 3 (p 19 (.Za 0)),.op 4 (p 20 (.bin .rem 19 (.k (.int .i64 10)))),.op 5 (p 21 (.bin .add (.k (.int .i64 48)) 20)),.op 6 (p 22 (.conv .u8 21)),.op 7 (n 23 (.Qo 5 1 [(.int
 .u8 0)] [(0,1,22)])),.op 8 (r 24 (.b2s 23)),.op 9 (p 25 (.bin .add 18 24)),.op 10 (p 2 (.Za 25))]) .ret)))))⟩
def Km:Zx:=(.seq (.Zi [0,3,4,5]) (.seq (.seq (.Zd [p 14 (.Za 4),p 15 (.bin .gtr 14 (.k (.int .i64 0))),p 16 (.Za 15),pg 17 16 false (.Za 5),pg 18
 16 false (.bin .eql 17 (.k (.str []))),p 19 (.pick 16 (.k (.bool true)) 18)]) (.cond 19 .skip (.exit 0))) (.block 1 (.seq (.Zd [p 20 (.Za 4),p 21 (.bin .rem 20 (.k (.int .i64 10))),
 p 22 (.bin .add (.k (.int .i64 48)) 21),p 23 (.conv .u8 22),n 24 (.Qo 5 1 [(.int .u8 0)] [(0,1,23)]),r 25 (.b2s 24),p 26 (.Za 5),p 27 (.bin .add 25 26),p 5 (.Za 27)])
 (.seq (.Zi [0,3,4,5]) (.Zd [p 28 (.Za 4),p 29 (.bin .quo 28 (.k (.int .i64 10))),p 4 (.Za 29)]))))))
def Yu:Zx:=(.seq (.Zi [3,6,7]) (.seq (.seq (.Zd [p 36 (.Za 7),p 37 (.bin .eql 36 (.k (.int .i64 0))),p 38 (.Za 37),pg 39 38 false (.Za 6),pg 40 38
 false (.bin .gtr 39 (.k (.int .i64 0))),p 41 (.pick 38 (.k (.bool true)) 40)]) (.cond 41 .skip (.exit 2))) (.seq (.block 3 (.seq (.Zd [p 44 (.Za 3),p 45 (.Za 6),p 46 (.bin .mul
 45 (.k (.int .i64 10))),p 47 (.bin .quo 46 (.k (.int .i64 65536))),p 48 (.bin .add (.k (.int .i64 48)) 47),p 49 (.conv .u8 48),n 50 (.Qo 5 1 [(.int .u8 0)] [(0,1,49)]),r
 51 (.b2s 50),p 52 (.bin .add 44 51),p 3 (.Za 52)]) (.seq (.Zi [3,6,7]) (.Zd [p 53 (.Za 6),p 54 (.bin .mul 53 (.k (.int .i64 10))),p 55 (.bin .rem 54 (.k (.int .i64 65536))),
 p 6 (.Za 55)])))) (.seq (.Zi [3,6,7]) (.Zd [p 42 (.Za 7),p 43 (.bin .add 42 (.k (.int .i64 1))),p 7 (.Za 43)])))))
def Va:Z8:=⟨1,[.t 2],(.seq (.Zd [p 2 (.Za (.k (.str [])))]) (.seq (.Zd [p 3 (.Za (.k (.str [])))]) (.seq (.seq (.Zd [p 8 (.Za 0),p 9 (.bin .lss 8 (.k (.int
 .i64 0)))]) (.cond 9 (.seq (.Zd [p 3 (.Za (.k (.str [45])))]) (.Zd [p 10 (.Za 0),p 11 (.un .neg 10),p 0 (.Za 11)])) .skip)) (.seq (.Zd [p 12 (.Za 0),p 13 (.bin .quo 12 (.k
 (.int .i64 65536))),p 4 (.Za 13)]) (.seq (.Zd [p 5 (.Za (.k (.str [])))]) (.seq (.block 0 (.loop Km)) (.seq (.Zi [0,3,5]) (.seq (.Zd [p 30 (.Za 3),p 31 (.Za
 5),p 32 (.bin .add 30 31),p 33 (.bin .add 32 (.k (.str [46]))),p 3 (.Za 33)]) (.seq (.Zd [p 34 (.Za 0),p 35 (.bin .rem 34 (.k (.int .i64 65536))),p 6 (.Za 35)]) (.seq (.seq
 (.Zd [p 7 (.Za (.k (.int .i64 0)))]) (.block 2 (.loop Yu))) (.seq (.Zi [3]) (.seq (.Zd [p 56 (.Za 3),p 2 (.Za 56)]) .ret))))))))))))⟩
def Zh2:Zx:=(.block 1 (.Zd [p 19 (.Za 6),w 20 (.call (.k (.fn 91 [] [])) [4,19])]))
def Zh3:Zx:=(.seq (.Zi [4,7,8]) (.seq (.seq (.Zd [p 24 (.Za 7),p 25 (.bin .gtr 24 (.k (.int .i64 0))),p 26 (.Za 25),pg 27 26 false (.Za 8),p 28 (.pick
 26 (.k (.bool true)) 27)]) (.cond 28 .skip (.exit 2))) (.seq (.block 3 (.seq (.Zd [p 29 (.Za 7),p 30 (.bin .mul 29 (.k (.int .i64 10))),p 7 (.Za 30)]) (.seq (.Zd [p 31 (.Za 7),
 p 32 (.bin .quo 31 (.k (.int .i64 65536))),p 33 (.conv .u8 32),p 34 (.bin .add (.k (.int .u8 48)) 33),w 35 (.call (.k (.fn 91 [] [])) [4,34])]) (.Zd [p 36 (.Za 7),p 37 (.bin
 .rem 36 (.k (.int .i64 65536))),p 7 (.Za 37)])))) (.seq (.Zi [4,7]) (.Zd [p 8 (.Za (.k (.bool false)))])))))
def Hx:Z8:=⟨1,[.t 1,.t 2,.t 3],(.seq (.Zd [p 1 (.Za (.k (.str []))),p 2 (.Za (.k (.int .i64 0))),p 3 (.Za (.k (.int .i64 0)))]) (.seq (.Zd [n 4 (.alloc 84
 false [.Wa,.Zk])]) (.seq (.Zd [r 9 (.load none 0),p 5 (.Za 9)]) (.seq (.seq (.Zd [p 10 (.Za 5),p 11 (.bin .lss 10 (.k (.int .i64 0)))]) (.cond 11 (.seq (.Zd [w 12
 (.call (.k (.fn 91 [] [])) [4,(.k (.int .u8 45))])]) (.Zd [p 13 (.Za 5),p 14 (.un .neg 13),p 5 (.Za 14)])) .skip)) (.seq (.seq (.Zd [p 15 (.Za 5),p 16 (.bin .quo 15 (.k (.int
 .i64 65536))),w 17 (.call (.k (.fn 138 [] [])) [16])]) (.block 0 (.rangeFunc 17 [18] (.Zd [p 6 (.Za 18)]) Zh2))) (.seq (.Zi [4,5]) (.seq (.Zd [w 21 (.call (.k (.fn
 91 [] [])) [4,(.k (.int .u8 46))])]) (.seq (.seq (.Zd [p 22 (.Za 5),p 23 (.bin .rem 22 (.k (.int .i64 65536))),p 7 (.Za 23),p 8 (.Za (.k (.bool true)))]) (.block 2 (.loop Zh3)))
 (.seq (.Zi [4]) (.seq (.Zd [w 38 (.call (.k (.fn 92 [] [])) [4]),p 1 (.Za 38),p 2 (.Za (.k (.int .i64 0))),p 3 (.Za (.k (.int .i64 0)))]) .ret))))))))))⟩
def Sm:Zx:=(.seq (.Zi [0,4,10,11,12]) (.seq (.Zd [p 13 (.bin .lss 12 11)]) (.seq (.cond 13 .skip (.exit 0)) (.seq (.block 1 (.seq (.Zd [p 14 (.Vn
 1 10 12),r 15 (.load none 14),p 7 (.Za 15)]) (.seq (.Zd [p 16 (.Za 7),w 17 (.call (.k (.fn 110 [] [])) [16]),p 18 (.un .not 17)]) (.cond 18 (.seq (.Zd [p 19 (.Za 4),p 4 (.Za
 19),p 5 (.Za (.k (.int .i64 2)))]) .ret) .skip)))) (.seq (.Zi [0,4,10,11,12]) (.Zd [p 20 (.bin .add 12 (.k (.int .i64 1))),p 12 (.Za 20)]))))))
def Ma:Z8:=⟨2,[.t 4,.t 5],(.seq (.Zd [p 4 (.Za (.k (.str []))),p 5 (.Za (.k (.int .i64 0)))]) (.seq (.seq (.Zd [p 10 (.Za 1),p 11 (.lenOf false 10),
 p 12 (.Za (.k (.int .i64 0)))]) (.block 0 (.loop Sm))) (.seq (.Zi [0,4]) (.seq (.Zd [p 22 (.Za 0),w 23 (.call 22 []),p 21 (.Za 23),p 24 (.Zt 0 21),p
 25 (.Zt 1 21),p 26 (.Zt 2 21),p 8 (.Za 24),p 9 (.Za 25),p 5 (.Za 26)]) (.seq (.Zi [4,5,8,9]) (.seq (.seq (.Zd [p 27 (.Za 5),p 28 (.bin .eql 27 (.k (.int .i64 0))),
 p 29 (.Za 28),pg 30 29 true (.Za 9),wg 31 29 true (.call (.k (.fn 110 [] [])) [30]),pg 32 29 true (.un .not 31),p 33 (.pick 29 32 (.k (.bool false)))]) (.cond 33 (.Zd [p 5 (.Za
 (.k (.int .i64 25)))]) .skip)) (.seq (.Zi [4,5,8]) (.seq (.seq (.Zd [p 34 (.Za 5),p 35 (.bin .neq 34 (.k (.int .i64 0)))]) (.cond 35 (.seq (.Zd [p 36 (.Za 4),p 37 (.Za 5),
 p 4 (.Za 36),p 5 (.Za 37)]) .ret) .skip)) (.seq (.Zd [p 38 (.Za 8),p 4 (.Za 38),p 5 (.Za (.k (.int .i64 0)))]) .ret)))))))))⟩
def O6:Z8:=⟨1,[.t 2],(.seq (.Zd [n 1 (.box 3 false 0),p 2 (.Za (.k .Lb))]) (.seq (.Zd [p 3 (.Zbu 139 [] [1]),p 2 (.Za 3)]) .ret))⟩
def Zh4:Zx:=(.seq (.Zi [0,1,3]) (.seq (.seq (.Zd [r 4 (.load none 1),p 5 (.Za 3),p 6 (.bin .quo 4 5),p 7 (.bin .geq 6 (.k (.int .i64 10)))]) (.cond 7 .skip
 (.exit 0))) (.block 1 (.Zd [p 8 (.Za 3),p 9 (.bin .mul 8 (.k (.int .i64 10))),p 3 (.Za 9)]))))
def Zh5:Zx:=(.seq (.Zi [0,1,3]) (.seq (.seq (.Zd [p 10 (.Za 3),p 11 (.bin .gtr 10 (.k (.int .i64 0)))]) (.cond 11 .skip (.exit 2))) (.seq (.block 3 (.seq (.Zd
 [p 14 (.Za 0),r 15 (.load none 1),p 16 (.Za 3),p 17 (.bin .quo 15 16),p 18 (.bin .rem 17 (.k (.int .i64 10))),p 19 (.conv .u8 18),p 20 (.bin .add (.k (.int .u8 48)) 19),w 21
 (.call 14 [20]),p 22 (.un .not 21)]) (.cond 22 .ret .skip))) (.seq (.Zi [0,1,3]) (.Zd [p 12 (.Za 3),p 13 (.bin .quo 12 (.k (.int .i64 10))),p 3 (.Za 13)])))))
def Co:Z8:=⟨2,[],(.seq (.Zd [p 3 (.Za (.k (.int .i64 1)))]) (.seq (.block 0 (.loop Zh4)) (.seq (.Zi [0,1,3]) (.block 2 (.loop Zh5)))))⟩
structure Su (T:Tab):Prop where
 en:T.en 132=some X0
structure Wy (T:Tab):Prop where
 e:T.en 134=none
 f:T.fn 134=some J7
structure Gn (T:Tab):Prop where
 e:T.en 135=none
 f:T.fn 135=some Va
structure Ss (T:Tab):Prop where
 e:T.en 139=none
 f:T.fn 139=some Co
structure Hj (T:Tab):Prop where
 e:T.en 130=none
 f:T.fn 130=some Jc
 J7:Wy T
 Va:Gn T
 Uv:Ln T
structure E4 (T:Tab):Prop where
 e:T.en 137=none
 f:T.fn 137=some Ma
 Gj:Ct T
structure Zdo (T:Tab):Prop where
 e:T.en 138=none
 f:T.fn 138=some O6
 Co:Ss T
structure Sr (T:Tab):Prop where
 e:T.en 136=none
 f:T.fn 136=some Hx
 Jk:Ye T
 O6:Zdo T
 Ki:Vi T
structure Lo (T:Tab):Prop where
 e:T.en 129=none
 f:T.fn 129=some Z4
 Ky:Ga T
 Qb:Yr T
 Kz:X2 T
structure Zdn (T:Tab):Prop where
 e:T.en 133=none
 f:T.fn 133=some O5
 Hx:Sr T
 Ma:E4 T
structure Kw (T:Tab):Prop where
 e:T.en 127=none
 f:T.fn 127=some Z0
 Jf:Vk T
 Z4:Lo T
structure Zcb (T:Tab):Prop where
 e:T.en 128=none
 f:T.fn 128=some Aq
 N8:E3 T
 strconv_Itoa:Su T
 O5:Zdn T
 Zaj:Zgh T
end Go.Ev.B

/- The reference's valid tokens. -/
namespace Go.Ev
open Go
variable {T : Tab} {st : St}
theorem Zwf {k n:Int} {t:List UInt8} (h1:k≠1) (h2:k≠2) (hn:n≠0):Qg k n t=false:=by
 unfold Qg
 rw[if_neg h1,if_neg h2]
 split
 ·simp[Nj,hn]
 ·split <;> simp[hn]
theorem Bl (H:B.Lo T) (hwf:st.Wf) {k n:Int} {t:List UInt8} (hs:t.length<1000000000000):Qa T st (.fn 129 [] []) [.agg [.int .i64 k,.int .i64 n,.str t]] (.bool (Qg k n t)):=by
 refine Zs H.e H.f rfl ?_
 have hx:=Ext.new hwf (.cells 134 true [.int .i64 k,.int .i64 n,.str t])
 have g:Zh ((st.nx,Z7.cells 134 true [.int .i64 k,.int .i64 n,.str t])::st.h) st.nx=some (.cells 134 true [.int .i64 k,.int .i64 n,.str t]):=by simp[Ze]
 by_cases h1:k=1
 ·subst h1
  by_cases ht:t=[]
  ·subst ht
   by_cases a1: -2147483648≤n
   ·simp[B.Z4,go_sem,NO.run,WO.run,RO.run,Zo,Ze,a1,Qg,Jb,hx]
   ·simp[B.Z4,go_sem,NO.run,WO.run,RO.run,Zo,Ze,a1,Qg,Jb,hx]
  ·have hq:t.isEmpty=false:=by cases t with | nil=>exact absurd rfl ht | cons=>rfl
   simp[B.Z4,go_sem,NO.run,WO.run,RO.run,Zo,Ze,Qg,Jb,hq,ht,hx]
 by_cases h2:k=2
 ·subst h2
  by_cases ht:t=[]
  ·subst ht
   simp[B.Z4,go_sem,NO.run,WO.run,RO.run,Zo,Ze,Jb]
   refine(Fl H.Ky hx.wf).use fun s1 hs1=> ?_
   simp[go_sem,Qg,hx.trans hs1]
  ·have hq:t.isEmpty=false:=by cases t with | nil=>exact absurd rfl ht | cons=>rfl
   simp[B.Z4,go_sem,NO.run,WO.run,RO.run,Zo,Ze,Qg,Jb,hq,ht,hx]
 by_cases hn:n=0
 rotate_left
 ·rw[Zwf h1 h2 hn]
  simp[B.Z4,go_sem,NO.run,WO.run,RO.run,Zo,Ze,h1,h2,hn,hx]
 subst hn
 by_cases h3:k=3
 ·subst h3
  by_cases m0:t=[91]
  ·subst m0
   simp[B.Z4,go_sem,NO.run,WO.run,RO.run,Zo,Ze,Qg,Nj,Jb,hx]
  by_cases m1:t=[93]
  ·subst m1
   simp[B.Z4,go_sem,NO.run,WO.run,RO.run,Zo,Ze,Qg,Nj,Jb,hx]
  by_cases m2:t=[60,60]
  ·subst m2
   simp[B.Z4,go_sem,NO.run,WO.run,RO.run,Zo,Ze,Qg,Nj,Jb,hx]
  by_cases m3:t=[62,62]
  ·subst m3
   simp[B.Z4,go_sem,NO.run,WO.run,RO.run,Zo,Ze,Qg,Nj,Jb,hx]
  have hr:Qg 3 0 t=Mv 3 t:=by simp[Qg,Nj,m0,m1,m2,m3]
  rw[hr]
  have q0:(t == [91])=false:=by simp[m0]
  have q1:(t == [93])=false:=by simp[m1]
  have q2:(t == [60,60])=false:=by simp[m2]
  have q3:(t == [62,62])=false:=by simp[m3]
  simp[B.Z4,go_sem,NO.run,WO.run,RO.run,Zo,Ze,Jb,q0,q1,q2,q3]
  refine(Pp H.Qb hx.wf hs).use fun s1 hs1=> ?_
  have e1:=hx.trans hs1
  have g1:=hs1.get hx.wf g
  rw[Zum]
  have hnm:Mv 3 t=(decide (t.length≤100) && Uc t && (!(t == []) && decide ((Zde t).2.2=5))):=by simp[Mv]
  rw[hnm]
  generalize Zde t=u
  have x3:=e1.trans (Ext.new e1.wf (.cells 134 true [.int .i64 u.1,.int .i64 u.2.1,.str []]))
  have hne:¬s1.nx=st.nx:=by have:=e1.wf.lt _ _ g1;omega
  have g2:Zh ((s1.nx,Z7.cells 134 true [.int .i64 u.1,.int .i64 u.2.1,.str []])::s1.h) st.nx=some (.cells 134 true [.int .i64 3,.int .i64 0,.str t]):=by
   simp[Ze,Ne.symm hne,hne,g1]
  by_cases ht:t=[]
  ·subst ht
   simp[go_sem,toA,Yj,Vp,NO.run,WO.run,RO.run,Vo,Zo,Ze,hne,g1,Jb,x3]
  have hq:t.isEmpty=false:=by cases t with | nil=>exact absurd rfl ht | cons=>rfl
  by_cases hl:t.length≤100
  ·simp[go_sem,toA,Yj,Vp,NO.run,WO.run,RO.run,Vo,Zo,Ze,hne,g1,Jb,hq,show (t.length:Int)≤100 by omega]
   refine(Cp H.Kz x3.wf (s:=t) (by omega)).use fun s2 hs2=> ?_
   have e2:=x3.trans hs2
   cases hra:Uc t <;> simp[go_sem,hra,hl,e2]
  ·simp[go_sem,toA,Yj,Vp,NO.run,WO.run,RO.run,Vo,Zo,Ze,hne,g1,Jb,hq,hl,show¬(t.length:Int)≤100 by omega,x3]
 have hk45:k=4∨k=5→Qg k 0 t=(decide (t.length≤100) && Uc t):=by
  rintro(rfl | rfl) <;> simp[Qg,Nj,Mv]
 by_cases h4:k=4
 ·rw[hk45 (.inl h4)]
  subst h4
  by_cases hl:t.length≤100
  ·simp[B.Z4,go_sem,NO.run,WO.run,RO.run,Zo,Ze,Jb,hl,show (t.length:Int)≤100 by omega]
   refine(Cp H.Kz hx.wf (s:=t) (by omega)).use fun s2 hs2=> ?_
   simp[go_sem,hx.trans hs2]
  ·simp[B.Z4,go_sem,NO.run,WO.run,RO.run,Zo,Ze,Jb,hl,show¬(t.length:Int)≤100 by omega,hx]
 by_cases h5:k=5
 ·rw[hk45 (.inr h5)]
  subst h5
  by_cases hl:t.length≤100
  ·simp[B.Z4,go_sem,NO.run,WO.run,RO.run,Zo,Ze,Jb,hl,show (t.length:Int)≤100 by omega]
   refine(Cp H.Kz hx.wf (s:=t) (by omega)).use fun s2 hs2=> ?_
   simp[go_sem,hx.trans hs2]
  ·simp[B.Z4,go_sem,NO.run,WO.run,RO.run,Zo,Ze,Jb,hl,show¬(t.length:Int)≤100 by omega,hx]
 by_cases h6:k=6
 ·subst h6
  simp[B.Z4,go_sem,NO.run,WO.run,RO.run,Zo,Ze,Qg,hx]
  omega
 by_cases h7:k=7
 ·subst h7
  simp[B.Z4,go_sem,NO.run,WO.run,RO.run,Zo,Ze,Qg,Jb,hx]
 by_cases h8:k=8
 ·subst h8
  simp[B.Z4,go_sem,NO.run,WO.run,RO.run,Zo,Ze,Qg,Jb,hx]
 simp[B.Z4,go_sem,NO.run,WO.run,RO.run,Zo,Ze,Qg,h1,h2,h3,h4,h5,h6,h7,h8,hx]
end Go.Ev

/- The reference's decimal text of an int. -/
namespace Go.Ev
open Go
variable {T : Tab} {st : St}
theorem Zgy:∀{h:Heap} {n:Nat},n∈h.map (·.1)→∃o,Zh h n=some o
 | [],_,hm=>by simp at hm
 | (m,o)::h,n,hm=>by
   by_cases e:m=n
   ·exact⟨o,by simp[Zh,e]⟩
   ·simp only[List.map_cons,List.mem_cons]at hm
    rcases hm with h1 | h1
    ·exact absurd h1.symm e
    ·obtain⟨p,hp⟩:=Zgy h1
     exact⟨p,by simp[Zh,e,hp]⟩
theorem Ext.put (hwf:st.Wf) {k n:Nat} {s:St} (x:Ext ⟨st.h,st.nx+k⟩ s) (h1:st.nx≤n) (h2:n<st.nx+k) (o:Z7):Ext st ⟨(n,o)::s.h,s.nx⟩:=by
 have hno:Zh s.h n=none:=by
  rw[x.Zi n h2]
  cases hg:Zh st.h n with
  | none=>rfl
  | some p=>have:=hwf.lt n p hg;omega
 have hnx:=x.nx
 refine⟨by simp only at hnx⊢;omega,⟨fun m p hm=> ?_,?_⟩,fun m hm=> ?_⟩
 ·simp only[Zh]at hm
  split at hm
  ·rename_i e;subst e;simp only at hnx⊢;omega
  ·exact x.wf.lt m p hm
 ·simp only[List.map_cons,List.nodup_cons]
  refine⟨fun hm=> ?_,x.wf.nd⟩
  obtain⟨p,hp⟩:=Zgy hm
  rw[hno]at hp;cases hp
 ·simp only[Zh]
  rw[if_neg (by omega),x.Zi m (by simp only;omega)]
theorem Ws {u:Nat} (h:u<10):Lib.decDigits u=[UInt8.ofNat (48+u)]:=by rw[Lib.decDigits,dif_pos h]
theorem Es {u:Nat} (h:¬u<10):Lib.decDigits u=Lib.decDigits (u / 10)++[UInt8.ofNat (48+u % 10)]:=by rw[Lib.decDigits,dif_neg h]
theorem Zby:∀(k u:Nat),u<10 ^ (k+1)→1≤(Lib.decDigits u).length∧(Lib.decDigits u).length≤k+1
 | 0,u,h=>by rw[Ws (by simpa using h)];simp
 | k+1,u,h=>by
   by_cases h10:u<10
   ·rw[Ws h10];simp
   ·have:=Zby k (u / 10) (by rw[Nat.pow_succ]at h;omega)
    rw[Es h10,List.length_append,List.length_singleton]
    omega
theorem Gf {u:Nat} (h:u≤4294967296):1≤(Lib.decDigits u).length∧(Lib.decDigits u).length≤10:=Zby 9 u (by omega)
theorem Zzh {d:Nat} (h:d<10):IntKind.u8.wrap (48+(d:Int))=((UInt8.ofNat (48+d)).toNat:Int)∧IntKind.i64.wrap (48+(d:Int))=48+d:=by
 constructor
 ·have:d=0∨d=1∨d=2∨d=3∨d=4∨d=5∨d=6∨d=7∨d=8∨d=9:=by omega
  rcases this with rfl | rfl | rfl | rfl | rfl | rfl | rfl | rfl | rfl | rfl <;> rfl
 ·exact Zf (by omega) (by omega)
theorem Zgr (H:B.Wy T):∀(u:Nat) (st:St),st.Wf→u≤4294967296→Qa T st (.fn 134 [] []) [.int .i64 (u:Int)] (.str (Lib.decDigits u)):=by
 intro u
 induction u using Nat.strongRecOn with
 | _ u ih=>
   intro st hwf hu
   refine Zs H.e H.f rfl ?_
   have hnn:¬(u:Int)<0:=by omega
   by_cases h10:u<10
   ·obtain⟨w1,w2⟩:=Zzh h10
    have x:=Ext.new hwf (.cells 5 false [.int .u8 ((UInt8.ofNat (48+u)).toNat:Int)])
    rw[Ws h10]
    generalize UInt8.ofNat (48+u)=c at*
    simp[B.J7,go_sem,NO.run,RO.run,hnn,show (u:Int)<10 by omega,w1,w2,Z1,Ze,Xz,x]
   ·have x:=Ext.aside hwf 11
    obtain⟨hr,hq⟩:=Zt9 u
    obtain⟨w1,w2⟩:=Zzh (Nat.mod_lt u (show 0<10 by omega))
    have hqb:u / 10<u∧u / 10≤4294967296:=by omega
    rw[Es h10]
    have wq:IntKind.i64.wrap ((u / 10:Nat):Int)=((u / 10:Nat):Int):=Zf (by omega) (by omega)
    generalize u / 10=q at*
    generalize u % 10=r at*
    generalize UInt8.ofNat (48+r)=c at*
    simp[B.J7,go_sem,NO.run,RO.run,hnn,show¬(u:Int)<10 by omega,hq,hr,w2,wq]
    refine(ih q hqb.1 _ x.wf hqb.2).use fun s1 x1=> ?_
    simp[go_sem,NO.run,RO.run,hr,w1,w2,Z1,Ze,Xz]
    rw[if_pos (by have:=Gf hqb.2;omega)]
    simp[go_sem]
    exact Ext.put hwf x1 (Nat.le_refl _) (by omega) _
theorem Zk2 (H:B.Wy T) (hwf:st.Wf) {n:Int} (h0: -4294967296≤n) (h1:n≤4294967296):Qa T st (.fn 134 [] []) [.int .i64 n] (.str (Lib.itoa n)):=by
 by_cases hn:n<0
 ·obtain⟨u,hu⟩:∃u:Nat,n= -(u:Int):=⟨n.natAbs,by omega⟩
  subst hu
  refine Zs H.e H.f rfl ?_
  have e1:IntKind.i64.wrap (u:Int)=u:=Zf (by omega) (by omega)
  have e2:Lib.itoa (-(u:Int))=45::Lib.decDigits u:=by unfold Lib.itoa;rw[if_pos hn];simp
  rw[e2]
  simp[B.J7,go_sem,NO.run,RO.run,show 0<u by omega,e1]
  refine(Zgr H u st hwf (by omega)).use fun s1 x1=> ?_
  simp[go_sem]
  rw[if_pos (by have:=Gf (u:=u) (by omega);omega)]
  simp[go_sem,x1]
 ·obtain⟨u,rfl⟩:=Int.eq_ofNat_of_zero_le (show 0≤n by omega)
  have e2:Lib.itoa (u:Int)=Lib.decDigits u:=by unfold Lib.itoa;rw[if_neg hn];simp
  rw[e2]
  exact Zgr H u st hwf (by omega)
end Go.Ev

/- Reals as decimals: what both Prints answer; the reference's Print. -/
namespace Go.Ev
open Go
variable {T : Tab} {st : St}
def Pj:Nat→Nat→List UInt8
 | 0,_=>[]
 | k+1,f=>UInt8.ofNat (48+f*10 / 65536)::(if f*10 % 65536=0 then []else Pj k (f*10 % 65536))
def Zdf (n:Int):List UInt8:=(if n<0 then [45]else [])++(Lib.decDigits (n.natAbs / 65536)++(46::Pj 17 (n.natAbs % 65536)))
theorem Zmu:∀k f,(Pj k f).length≤k
 | 0,_=>by simp[Pj]
 | k+1,f=>by
   have:=Zmu k (f*10 % 65536)
   simp only[Pj,List.length_cons]
   split <;> simp <;> omega
theorem Zq8 (st0:St):∀(n:Nat) (D:List UInt8) (e:Env) (st1:St),Ext st0 st1→D.length+n≤4294967296→∀a o:AV,Zb e 0=a→Zb e 3=o→Zb e 4= .int .i64 (n:Int)→Zb e 5= .str D→
  Res (run T (.loop B.Km) e st1) fun x e' s'=>x= .exit 0∧Ext st0 s'∧Zb e' 0=a∧Zb e' 3=o∧Zb e' 5= .str (if 0<n∨D=[]then Lib.decDigits n++D else D):=by
 intro n
 induction n using Nat.strongRecOn with
 | _ n ih=>
   intro D e st1 hx hl a o g0 g3 g4 g5
   rw[Zn]
   by_cases hc:0<n∨D=[]
   ·obtain⟨hr,hq⟩:=Zt9 n
    obtain⟨w1,w2⟩:=Zzh (Nat.mod_lt n (show 0<10 by omega))
    have hdig:Lib.decDigits n=if n<10 then [UInt8.ofNat (48+n % 10)]else Lib.decDigits (n / 10)++[UInt8.ofNat (48+n % 10)]:=by
     by_cases h:n<10
     ·rw[if_pos h,Ws h,Nat.mod_eq_of_lt h]
     ·rw[if_neg h,Es h]
    have wq:IntKind.i64.wrap ((n / 10:Nat):Int)=((n / 10:Nat):Int):=Zf (by omega) (by omega)
    have hlt:n / 10<n∨n=0:=by omega
    have h10:n<10↔n / 10=0:=by omega
    have hle:n / 10≤n:=by omega
    generalize n / 10=q at*
    generalize n % 10=r at*
    generalize UInt8.ofNat (48+r)=c at*
    have x1:=hx.trans (Ext.new hx.wf (.cells 5 false [.int .u8 (c.toNat:Int)]))
    have hd:(if 0<n∨D=[]then Lib.decDigits n++D else D)=if 0<q∨(c::D)=[]then Lib.decDigits q++(c::D)else c::D:=by
     rw[if_pos hc,hdig]
     by_cases hq0:q=0
     ·rw[if_pos (h10.2 hq0),if_neg (by simp[hq0])];rfl
     ·rw[if_neg (fun h=>hq0 (h10.1 h)),if_pos (.inl (by omega))];simp
    obtain⟨OUT,hO⟩:∃OUT,OUT=if 0<q∨(c::D)=[]then Lib.decDigits q++(c::D)else c::D:=⟨_,rfl⟩
    rw[hd,←hO]
    have fin:∀e' s',Ext st0 s'→Zb e' 0=a→Zb e' 3=o→Zb e' 4= .int .i64 (q:Int)→Zb e' 5= .str (c::D)→
      Res (run T (.loop B.Km) e' s') fun x e' s'=>x= .exit 0∧Ext st0 s'∧Zb e' 0=a∧Zb e' 3=o∧Zb e' 5= .str OUT:=by
     intro e' s' hx' k0 k3 k4 k5
     rw[hO]
     rcases hlt with hlt | hlt
     ·exact ih q hlt (c::D) e' s' hx' (by simp only[List.length_cons];omega) a o k0 k3 k4 k5
     ·have:q=0:=by omega
      subst this
      rw[Zn]
      simp[B.Km,go_sem,k0,k3,k4,k5,hx',Jb]
    by_cases hn:0<n
    ·have hn':(0:Int)<n:=by omega
     simp[B.Km,go_sem,NO.run,RO.run,g0,g3,g4,g5,hn,hn',hr,hq,w1,w2,wq,Z1,Ze,Xz]
     rw[if_pos (by omega)]
     simp[go_sem,g0,g3,g4,g5,hq,wq]
     exact fin _ _ x1 (by simp[go_sem]) (by simp[go_sem]) (by simp[go_sem]) (by simp[go_sem])
    ·have hD:D=[]:=by rcases hc with h | h;exact absurd h hn;exact h
     subst hD
     have hn':¬(0:Int)<n:=by omega
     simp[B.Km,go_sem,NO.run,RO.run,g0,g3,g4,g5,hn,hn',hr,hq,w1,w2,wq,Z1,Ze,Xz,Jb]
     exact fin _ _ x1 (by simp[go_sem]) (by simp[go_sem]) (by simp[go_sem]) (by simp[go_sem])
   ·rw[if_neg hc]
    have hn':¬(0:Int)<n:=by omega
    have hn:¬0<n:=by omega
    have hD:D.isEmpty=false:=by cases D with | nil=>simp at hc | cons=>rfl
    simp[B.Km,go_sem,g0,g3,g4,g5,hn,hn',hx,Jb,hD]
theorem Zxi {k f:Nat} (hk:1≤k) (hk2:k≤16) (hd:2 ^ (17 - (k+1)) ∣ f):2 ^ (17 - k) ∣ f*10 % 65536:=by
 obtain⟨m,hm⟩:=hd
 have e1:(2:Nat) ^ (17 - k)=2 ^ (17 - (k+1))*2:=by rw[←Nat.pow_succ];congr 1;omega
 have h1:2 ^ (17 - k) ∣ f*10:=⟨m*5,by rw[e1,hm];rw[Nat.mul_assoc,Nat.mul_assoc,←Nat.mul_assoc 2 m 5,Nat.mul_comm 2 m,Nat.mul_assoc m 2 5]⟩
 have h2:2 ^ (17 - k) ∣ 65536:=⟨2 ^ (k - 1),by rw[←Nat.pow_add,show 17 - k+(k - 1)=16 by omega]⟩
 exact(Nat.dvd_mod_iff h2).2 h1
theorem Zvl {f:Nat} (hf:f<65536):IntKind.i64.wrap ((f:Int)*10)=((f*10:Nat):Int)∧((f*10:Nat):Int).tdiv 65536=((f*10 / 65536:Nat):Int)∧((f*10:Nat):Int).tmod 65536=((f*10 % 65536:Nat):Int)∧
  IntKind.i64.wrap ((f*10 / 65536:Nat):Int)=((f*10 / 65536:Nat):Int)∧f*10 / 65536<10∧f*10 % 65536<65536:=by
 refine⟨by rw[Zf (by omega) (by omega)];omega,?_,?_,Zf (by omega) (by omega),by omega,by omega⟩
 ·rw[Int.tdiv_eq_ediv_of_nonneg (by omega)];omega
 ·rw[Int.tmod_eq_emod_of_nonneg (by omega)];omega
theorem Zq9 (st0:St):∀(k f i:Nat) (out:List UInt8) (e:Env) (st1:St),i+(k+1)=17→f<65536→2 ^ (17 - (k+1)) ∣ f→(i=0∨0<f)→out.length+k≤1000→Ext st0 st1→Zb e 3= .str out→Zb e 6= .int .i64 (f:Int)→Zb e 7= .int .i64 (i:Int)→
  Res (run T (.loop B.Yu) e st1) fun x e' s'=>x= .exit 2∧Ext st0 s'∧Zb e' 3= .str (out++Pj (k+1) f):=by
 intro k
 induction k with
 | zero=>
   intro f i out e st1 hi hf hd hgo hl hx g3 g6 g7
   obtain⟨m,hm⟩:=hd
   have hf0:f=0:=by
    rw[show (2:Nat) ^ (17 - (0+1))=65536 from rfl]at hm;omega
   exfalso
   omega
 | succ k ih=>
   intro f i out e st1 hi hf hd hgo hl hx g3 g6 g7
   obtain⟨a1,a2,a3,a4,a5,a6⟩:=Zvl hf
   obtain⟨w1,w2⟩:=Zzh a5
   have hdv:=Zxi (k:=k+1) (by omega) (by omega) hd
   have hfr:Pj (k+1+1) f=UInt8.ofNat (48+f*10 / 65536)::(if f*10 % 65536=0 then []else Pj (k+1) (f*10 % 65536)):=rfl
   rw[hfr]
   generalize f*10 / 65536=d at*
   generalize f*10 % 65536=r at*
   generalize f*10=t at*
   generalize UInt8.ofNat (48+d)=c at*
   have x1:=hx.trans (Ext.new hx.wf (.cells 5 false [.int .u8 (c.toNat:Int)]))
   have e1:IntKind.i64.wrap ((i:Int)+1)=((i+1:Nat):Int):=Zf (by omega) (by omega)
   obtain⟨OUT,hO⟩:∃OUT,OUT=out++c::(if r=0 then []else Pj (k+1) r):=⟨_,rfl⟩
   rw[←hO]
   have fin:∀e' s',Ext st0 s'→Zb e' 3= .str (out++[c])→Zb e' 6= .int .i64 (r:Int)→Zb e' 7= .int .i64 ((i+1:Nat):Int)→
     Res (run T (.loop B.Yu) e' s') fun x e' s'=>x= .exit 2∧Ext st0 s'∧Zb e' 3= .str OUT:=by
    intro e' s' hx' k3 k6 k7
    by_cases hr:r=0
    ·subst hr
     have hO':OUT=out++[c]:=by rw[hO];simp
     rw[Zn]
     have hne:¬((i+1:Nat):Int)=0:=by omega
     have hne':¬(i+1:Nat)=0:=by omega
     generalize i+1=j at*
     simp[B.Yu,go_sem,k3,k6,k7,hx',hne,hne',hO']
    ·have hO':OUT=(out++[c])++Pj (k+1) r:=by rw[hO,if_neg hr];simp
     rw[hO']
     exact ih r (i+1) (out++[c]) e' s' (by omega) a6 hdv (.inr (by omega)) (by simp;omega) hx' k3 k6 k7
   rw[Zn]
   have hlen:out.length+1<4611686018427387904:=by omega
   by_cases hi0:i=0
   ·subst hi0
    simp[B.Yu,go_sem,NO.run,RO.run,g3,g6,g7,a1,a2,a3,a4,w1,w2,Z1,Ze,Xz,hlen]
    exact fin _ _ x1 (by simp[go_sem]) (by simp[go_sem,a1,a3]) (by simp[go_sem];rfl)
   ·have hf0:0<(f:Int):=by omega
    have hi0':¬(i:Int)=0:=by omega
    simp[B.Yu,go_sem,NO.run,RO.run,g3,g6,g7,a1,a2,a3,a4,w1,w2,Z1,Ze,Xz,hf0,hi0,hi0',show 0<f by omega,hlen,e1]
    exact fin _ _ x1 (by simp[go_sem]) (by simp[go_sem,a1,a3]) (by simp[go_sem])
theorem Ztf {u:Nat}:Zdf (u:Int)=Lib.decDigits (u / 65536)++(46::Pj 17 (u % 65536)):=by
 unfold Zdf;rw[if_neg (by omega)];simp
theorem Zte {u:Nat} (h:0<u):Zdf (-(u:Int))=45::(Lib.decDigits (u / 65536)++(46::Pj 17 (u % 65536))):=by
 unfold Zdf;rw[if_pos (by omega)];simp
theorem Zps (u:Nat):(u:Int).tdiv 65536=((u / 65536:Nat):Int)∧(u:Int).tmod 65536=((u % 65536:Nat):Int):=by
 refine⟨?_,?_⟩
 ·rw[Int.tdiv_eq_ediv_of_nonneg (by omega)];omega
 ·rw[Int.tmod_eq_emod_of_nonneg (by omega)];omega
theorem Zkg (H:B.Gn T) (hwf:st.Wf) {n:Int} (h0: -4294967296≤n) (h1:n≤4294967296):Qa T st (.fn 135 [] []) [.int .i64 n] (.str (Zdf n)):=by
 refine Zs H.e H.f rfl ?_
 by_cases hn:n<0
 ·obtain⟨u,hu⟩:∃u:Nat,n= -(u:Int):=⟨n.natAbs,by omega⟩
  subst hu
  have e1:IntKind.i64.wrap (u:Int)=u:=Zf (by omega) (by omega)
  rw[Zte (by omega)]
  obtain⟨a1,a2⟩:=Zps u
  have hq:u / 65536≤65536:=by omega
  have hr:u % 65536<65536:=by omega
  have wq:IntKind.i64.wrap ((u / 65536:Nat):Int)=((u / 65536:Nat):Int):=Zf (by omega) (by omega)
  generalize u / 65536=q at*
  generalize u % 65536=r at*
  simp[B.Va,go_sem,show 0<u by omega,e1,a1,wq]
  refine(Zq8 st q [] _ st (.refl hwf) (by simp;omega) _ _ (by simp[go_sem];rfl) (by simp[go_sem];rfl) (by simp[go_sem]) (by simp[go_sem])).mono ?_
  rintro x e s1 ⟨rfl,x1,k0,k3,k5⟩
  have hl:=Gf (u:=q) (by omega)
  simp at k5
  simp[go_sem,k0,k3,k5,a2]
  rw[if_pos (by omega)]
  simp[go_sem]
  rw[if_pos (by omega)]
  simp[go_sem,k0,a2]
  refine(Zq9 st 16 r 0 (45::(Lib.decDigits q++[46])) _ s1 rfl hr (by simp) (.inl rfl) (by simp;omega) x1 (by simp[go_sem]) (by simp[go_sem]) (by simp[go_sem])).mono ?_
  rintro x e s2 ⟨rfl,x2,k3⟩
  simp[go_sem,k3,x2]
 ·obtain⟨u,rfl⟩:=Int.eq_ofNat_of_zero_le (show 0≤n by omega)
  rw[Ztf]
  obtain⟨a1,a2⟩:=Zps u
  have hq:u / 65536≤65536:=by omega
  have hr:u % 65536<65536:=by omega
  have wq:IntKind.i64.wrap ((u / 65536:Nat):Int)=((u / 65536:Nat):Int):=Zf (by omega) (by omega)
  have hn':¬(u:Int)<0:=by omega
  generalize u / 65536=q at*
  generalize u % 65536=r at*
  simp[B.Va,go_sem,hn',a1,wq]
  refine(Zq8 st q [] _ st (.refl hwf) (by simp;omega) _ _ (by simp[go_sem];rfl) (by simp[go_sem];rfl) (by simp[go_sem]) (by simp[go_sem])).mono ?_
  rintro x e s1 ⟨rfl,x1,k0,k3,k5⟩
  have hl:=Gf (u:=q) (by omega)
  simp at k5
  simp[go_sem,k0,k3,k5,a2]
  rw[if_pos (by omega)]
  simp[go_sem]
  rw[if_pos (by omega)]
  simp[go_sem,k0,a2]
  refine(Zq9 st 16 r 0 (Lib.decDigits q++[46]) _ s1 rfl hr (by simp) (.inl rfl) (by simp;omega) x1 (by simp[go_sem]) (by simp[go_sem]) (by simp[go_sem])).mono ?_
  rintro x e s2 ⟨rfl,x2,k3⟩
  simp[go_sem,k3,x2]
end Go.Ev

/- The canonical texts: the reference's Text. -/
namespace Go.Ev
open Go
variable {T : Tab} {st : St}
def Pr (k n:Int) (t:List UInt8):List UInt8:=
 if k=1 then Lib.itoa n else if k=2 then Zdf n else if k=4 then 47::t else if k=5 then 47::47::t else if k=6 then Az t else if k=7 then [123]else if k=8 then [125]else t
theorem Zg8 {k n:Int} {t:List UInt8} (h:Qg k n t=true):k=1∨k=2→-4294967296≤n∧n≤4294967296:=by
 rintro(rfl | rfl)
 ·simp[Qg]at h;omega
 ·simp[Qg]at h;omega
theorem Zl9 (H:B.Hj T) (hwf:st.Wf) {k n:Int} {t:List UInt8} (hs:t.length<1000000000000) (hb:k=1∨k=2→-4294967296≤n∧n≤4294967296):Qa T st (.fn 130 [] []) [.agg [.int .i64 k,.int .i64 n,.str t]] (.str (Pr k n t)):=by
 refine Zs H.e H.f rfl ?_
 have hx:=Ext.new hwf (.cells 134 true [.int .i64 k,.int .i64 n,.str t])
 have hl1:1+t.length<4611686018427387904:=by omega
 have hl2:2+t.length<4611686018427387904:=by omega
 by_cases h1:k=1
 ·subst h1
  obtain⟨b0,b1⟩:=hb (.inl rfl)
  simp[B.Jc,go_sem,NO.run,WO.run,RO.run,Zo,Ze]
  refine(Zk2 H.J7 hx.wf b0 b1).use fun s1 x1=> ?_
  simp[go_sem,Pr,hx.trans x1]
 by_cases h2:k=2
 ·subst h2
  obtain⟨b0,b1⟩:=hb (.inr rfl)
  simp[B.Jc,go_sem,NO.run,WO.run,RO.run,Zo,Ze]
  refine(Zkg H.Va hx.wf b0 b1).use fun s1 x1=> ?_
  simp[go_sem,Pr,hx.trans x1]
 by_cases h4:k=4
 ·subst h4
  simp[B.Jc,go_sem,NO.run,WO.run,RO.run,Zo,Ze,hl1,Pr,hx]
 by_cases h5:k=5
 ·subst h5
  simp[B.Jc,go_sem,NO.run,WO.run,RO.run,Zo,Ze,hl2,Pr,hx]
 by_cases h6:k=6
 ·subst h6
  simp[B.Jc,go_sem,NO.run,WO.run,RO.run,Zo,Ze]
  refine(Zkh H.Uv hx.wf hs).use fun s1 x1=> ?_
  simp[go_sem,Pr,hx.trans x1]
 by_cases h7:k=7
 ·subst h7
  simp[B.Jc,go_sem,NO.run,WO.run,RO.run,Zo,Ze,Pr,hx]
 by_cases h8:k=8
 ·subst h8
  simp[B.Jc,go_sem,NO.run,WO.run,RO.run,Zo,Ze,Pr,hx]
 simp[B.Jc,go_sem,NO.run,WO.run,RO.run,Zo,Ze,Pr,h1,h2,h4,h5,h6,h7,h8,hx]
end Go.Ev

/- real.Print: the digits ahead of the point are yielded one by one. -/
namespace Go.Ev
open Go
variable {T : Tab} {st : St}
end Go.Ev

/- real.Print told. -/
namespace Go.Ev
open Go
variable {T : Tab} {st : St}
def pb:Nat→Zx
 | 0=>B.Hx.body
 | k+1=>(pb k).b
end Go.Ev

/- lex.Text; the token of a draft. -/
namespace Go.Ev
open Go
variable {T : Tab} {st : St}
def Hw (K:Nat):List UInt8:=match K / 8 % 7 with
 | 0=>[97]
 | 1=>[91]
 | 2=>[93]
 | 3=>[60,60]
 | 4=>[62,62]
 | 5=>[120,45,49]
 | _=>[61]
def Iy (t:List UInt8):List UInt8:=(t.take 20).filter Qu
def Ec (K:Nat) (N:Int) (t:List UInt8):Int×Int×List UInt8:=
 if K % 8=0∨K % 8=1 then(1+(K % 8:Nat),N,[])
 else if K % 8=5 then(6,0,t.take 60)
 else if K % 8=6∨K % 8=7 then(1+(K % 8:Nat),0,[])
 else if K % 8=2∧Qg 3 0 (Iy t)=false then(3,0,Hw K)
 else(1+(K % 8:Nat),0,Iy t)
theorem Zm5 {h:Heap} {n ty k:Nat} {l:Bool} {cs:List AV} {v:AV} (hg:Zh h n=some (.cells ty l cs)) (hk:cs[k]? =some v):Zo h n k=some v:=by simp[Zo,hg,hk]
theorem Ext.get' {s s':St} (a:Ext s s') {n:Nat} {o:Z7} (hl:n<s.nx) (h:Zh s.h n=some o):Zh s'.h n=some o:=by rw[a.Zi n hl,h]
theorem Ztw (H:B.Kw T) {stA:St} {b r:Nat} {K N:AV} {t:List UInt8} (hb:Zh stA.h b=some (.cells 205 true [K,N,.str t])) (hbl:b<stA.nx) {kv:AV} {L:Nat} (hL:L=min t.length 20) (ht:t.length<9223372036854775808):
  ∀(m i:Nat) (out:List UInt8) (e:Env) (st1:St) (v:AV),i+m=L→out.length≤i→Ext stA st1→Sl st1 v 5 1 out.length (u8s out)→Xg [] stA v→Zb e 1= .ptr b 0→Zb e 2= .ptr r 0→Zb e 3=kv→Zb e 4=v→Zb e 5= .int .i64 i→
  Res (run T (.loop B.Kj) e st1) fun x e' s'=>x= .exit 1∧Ext stA s'∧Zb e' 1= .ptr b 0∧Zb e' 2= .ptr r 0∧Zb e' 3=kv∧Sl s' (Zb e' 4) 5 1 (out++((t.take 20).drop i).filter Qu).length (u8s (out++((t.take 20).drop i).filter Qu))∧Xg [] stA (Zb e' 4):=by
 have hlen:(t.take 20).length=L:=by rw[List.length_take];omega
 intro m
 induction m with
 | zero=>
   intro i out e st1 v hi ho hx hg hm g1 g2 g3 g4 g5
   have hd:(t.take 20).drop i=[]:=List.drop_eq_nil_of_le (by omega)
   rw[hd,Zn]
   have rb:=Zm5 (k:=2) (hx.get' hbl hb) rfl
   by_cases h1:i<t.length
   ·have h1':(i:Int)<t.length:=by omega
    have h2:¬(i:Int)<20:=by omega
    have h2':¬i<20:=by omega
    simp[B.Kj,go_sem,RO.run,g1,g2,g3,g4,g5,rb,h1,h1',h2,h2',hx,hg,hm]
   ·have h1':¬(i:Int)<t.length:=by omega
    simp[B.Kj,go_sem,RO.run,g1,g2,g3,g4,g5,rb,h1,h1',hx,hg,hm]
 | succ m ih=>
   intro i out e st1 v hi ho hx hg hm g1 g2 g3 g4 g5
   have hil:i<t.length:=by omega
   have hil':(i:Int)<t.length:=by omega
   have h2:(i:Int)<20:=by omega
   have h2':i<20:=by omega
   obtain⟨c,hc,_⟩:=Z9 (s:=t) (i:=i) hil
   have hd:(t.take 20).drop i=c::(t.take 20).drop (i+1):=by
    have hi2:i<(t.take 20).length:=by omega
    rw[List.drop_eq_getElem_cons hi2]
    congr 1
    rw[List.getElem_take]
    exact(List.getElem?_eq_some_iff.1 hc).2
   have ek:IntKind.i64.wrap ((i:Int)+1)=((i+1:Nat):Int):=Zf (by omega) (by omega)
   have hge:∀n∈v.nms,stA.nx≤n:=fun n hn=>by
    rcases hm n hn with h | h
    ·cases h
    ·exact h
   have rb:=Zm5 (k:=2) (hx.get' hbl hb) rfl
   obtain⟨OUT,hO⟩:∃OUT,OUT=out++((t.take 20).drop i).filter Qu:=⟨_,rfl⟩
   have hOt:Qu c=true→(out++[c])++((t.take 20).drop (i+1)).filter Qu=OUT:=fun h=>by rw[hO,hd,List.filter_cons,if_pos h];simp
   have hOf:Qu c=false→out++((t.take 20).drop (i+1)).filter Qu=OUT:=fun h=>by rw[hO,hd,List.filter_cons,if_neg (by simp[h])]
   rw[←hO,Zn]
   clear hd hO
   simp[B.Kj,go_sem,RO.run,g1,g2,g3,g4,g5,rb,hil',h2,h2',hc]
   refine(Ef H.Jf hx.wf c).use fun s1 x1=> ?_
   have hx1:=hx.trans x1
   have rb1:=Zm5 (k:=2) (hx1.get' hbl hb) rfl
   cases hrg:Qu c with
   | true=>
     have hap:=Zwz.app (m:=[c]) hx1.nx hx1.wf (hg.ext x1 hx.wf) hm (by simp) (by simp;omega)
     have hu:u8s [c]=[.int .u8 (c.toNat:Int)]:=rfl
     rw[hu]at hap
     have hap:Jg _ _:=hap
     have ih2:=fun e' st2 v'=>ih (i+1) (out++[c]) e' st2 v' (by omega) (by simp;omega)
     rw[hOt hrg]at ih2
     simp[go_sem,RO.run,NO.run,Y3,g1,g2,g3,g4,g5,rb1,hc]
     refine hap.mono ?_
     rintro v2 s2 ⟨o2,m2,_,f2⟩
     simp[go_sem,ek]
     exact ih2 _ _ v2 (hx1.Yo f2 hge) o2 m2 (by simp[go_sem,g1]) (by simp[go_sem,g2]) (by simp[go_sem,g3]) (by simp[go_sem]) (by simp[go_sem,ek])
   | false=>
     have ih2:=fun e' st2 v'=>ih (i+1) out e' st2 v' (by omega) (by omega)
     rw[hOf hrg]at ih2
     simp[go_sem,g1,g2,g3,g4,g5,ek]
     exact ih2 _ _ v hx1 (hg.ext x1 hx.wf) hm (by simp[go_sem,g1]) (by simp[go_sem,g2]) (by simp[go_sem,g3]) (by simp[go_sem,g4]) (by simp[go_sem,ek])
def tb:Nat→Zx
 | 0=>B.Z0.body
 | k+1=>(tb k).b
theorem Zxu {K:Nat} (hK:K<256):∃q s:Nat,(K:Int).tdiv 8=(q:Int)∧IntKind.u8.wrap (q:Int)=q∧(q:Int).tmod 7=(s:Int)∧s<7∧[[97],[91],[93],[60,60],[62,62],[120,45,49],[61]][s]? =some (Hw K):=by
 refine⟨K / 8,K / 8 % 7,?_,?_,?_,by omega,?_⟩
 ·rw[Int.tdiv_eq_ediv_of_nonneg (by omega)];omega
 ·have h:(List.range 32).all (fun n=>decide (IntKind.u8.wrap ((n:Nat):Int)=n))=true:=by kernel_rfl
  have:=List.all_eq_true.1 h (K / 8) (List.mem_range.2 (by omega))
  simpa using this
 ·rw[Int.tmod_eq_emod_of_nonneg (by omega)];omega
 ·have:K / 8 % 7<7:=by omega
  unfold Hw
  generalize K / 8 % 7=s at*
  have:s=0∨s=1∨s=2∨s=3∨s=4∨s=5∨s=6:=by omega
  rcases this with rfl | rfl | rfl | rfl | rfl | rfl | rfl <;> rfl
theorem Ztx (H:B.Kw T) {st0 stA:St} {b r:Nat} {K k:Nat} {N:Int} {t:List UInt8} (hK:K<256) (ht:t.length<9223372036854775808) (hx0:Ext st0 stA) (hb:Zh stA.h b=some (.cells 205 true [.int .u8 (K:Int),.int .i32 N,.str t]))
  (hr:Zh stA.h r=some (.cells 134 true [.int .i64 0,.int .i64 0,.str []])) (hr0:st0.nx≤r) (hk:k=3∨k=4∨k=5) {e:Env} (g1:Zb e 1= .ptr b 0) (g2:Zb e 2= .ptr r 0) (g3:Zb e 3= .int .i64 (k:Int)):
  Res (run T (tb 3) e stA) fun x e' s'=>x= .ret∧Ext st0 s'∧Zb e' 2= .ptr r 0∧Zh s'.h r=some (.cells 134 true [.int .i64 (k:Int),.int .i64 0,.str (if k=3∧Qg 3 0 (Iy t)=false then Hw K else Iy t)]):=by
 have hbl:=hx0.wf.lt _ _ hb
 have hrl:=hx0.wf.lt _ _ hr
 show Res (run T (.seq (.Zi [1,2,3]) (tb 4)) e stA) _
 rw[Dp]
 have h4:Zb (Jh [1,2,3] e) 1= .ptr b 0∧Zb (Jh [1,2,3] e) 2= .ptr r 0∧Zb (Jh [1,2,3] e) 3= .int .i64 (k:Int):=by simp[Jh,Zb,g1,g2,g3]
 generalize Jh [1,2,3] e=e0 at h4
 obtain⟨g1,g2,g3⟩:=h4
 refine cut (c:=tb 4) rfl (by intro l;simp[tb,B.Z0,Qq]) (fun x e' s'=>x= .norm∧s'=stA∧Zb e' 1= .ptr b 0∧Zb e' 2= .ptr r 0∧Zb e' 3= .int .i64 (k:Int)∧Zb e' 4= .Zk) ?_ ?_
 ·simp only[tb,B.Z0,Qq]
  simp[go_sem,g1,g2,g3]
 rintro _ e1 s1 ⟨rfl,hst,g1,g2,g3,g4⟩
 rw[Qw,hst]
 clear hst
 refine cut (c:=tb 5) rfl (by intro l;simp[tb,B.Z0,Qq]) (fun x e' s'=>x= .norm∧Ext stA s'∧Zb e' 1= .ptr b 0∧Zb e' 2= .ptr r 0∧Zb e' 3= .int .i64 (k:Int)∧Sl s' (Zb e' 4) 5 1 (Iy t).length (u8s (Iy t))∧Xg [] stA (Zb e' 4)) ?_ ?_
 ·simp only[tb,B.Z0,Qq]
  simp[go_sem,g1,g2,g3,g4]
  refine(Ztw H hb hbl (r:=r) (kv:= .int .i64 (k:Int)) rfl ht (min t.length 20) 0 [] _ stA .Zk (by simp) (by simp) (.refl hx0.wf) ⟨0,.nil rfl rfl rfl⟩ (fun n h=>by simp[AV.nms]at h) (by simp[go_sem,g1]) (by simp[go_sem,g2]) (by simp[go_sem,g3]) (by simp[go_sem,g4]) (by simp[go_sem])).mono ?_
  rintro x e1 s1 ⟨rfl,x1,k1,k2,k3,hsl,hmine⟩
  have hR:[]++((t.take 20).drop 0).filter Qu=Iy t:=by simp[Iy]
  rw[hR]at hsl
  simp[go_sem,k1,k2,k3,x1]
  exact⟨hsl,hmine⟩
 rintro _ e2 s2 ⟨rfl,x2,g1,g2,g3,hsl,hmine⟩
 rw[Qw]
 have hRl:(Iy t).length≤20:=by
  unfold Iy
  exact Nat.le_trans (List.length_filter_le _ _) (by rw[List.length_take];omega)
 generalize Iy t=R at*
 obtain⟨v,hv⟩:∃v,Zb e2 4=v:=⟨_,rfl⟩
 rw[hv]at hsl hmine
 show Res (run T (.seq (.Zi [1,2,3,4]) (tb 7)) e2 s2) _
 rw[Dp]
 have h5:Zb (Jh [1,2,3,4] e2) 1= .ptr b 0∧Zb (Jh [1,2,3,4] e2) 2= .ptr r 0∧Zb (Jh [1,2,3,4] e2) 3= .int .i64 (k:Int)∧Zb (Jh [1,2,3,4] e2) 4=v:=by simp[Jh,Zb,g1,g2,g3,hv]
 generalize Jh [1,2,3,4] e2=e3 at h5
 obtain⟨g1,g2,g3,g4⟩:=h5
 have hz:=Kb R
 refine cut (c:=tb 7) rfl (by intro l;simp[tb,B.Z0,Qq]) (fun x e' s'=>x= .norm∧s'=⟨(s2.nx,.cells 134 true [.int .i64 (k:Int),.int .i64 0,.str R])::s2.h,s2.nx+1⟩∧Zb e' 1= .ptr b 0∧Zb e' 2= .ptr r 0∧Zb e' 3= .int .i64 (k:Int)∧Zb e' 6= .ptr s2.nx 0) ?_ ?_
 ·simp only[tb,B.Z0,Qq]
  rcases hsl.rd with ⟨h1,h2,h3⟩ | ⟨n,off,cp,h1,h2⟩
  ·have:R=[]:=List.length_eq_zero_iff.1 h2
   subst this
   subst h1
   simp[go_sem,RO.run,NO.run,WO.run,Vo,g1,g2,g3,g4]
  ·subst h1
   rw[Nat.mul_one]at h2
   simp[go_sem,RO.run,NO.run,WO.run,Vo,g1,g2,g3,g4,h2,hz]
 rintro _ e4 s4 ⟨rfl,hst,g1,g2,g3,g6⟩
 rw[Qw,hst]
 clear hst
 have y1:=x2.trans (Ext.new x2.wf (.cells 134 true [.int .i64 (k:Int),.int .i64 0,.str R]))
 have hm:Zh ((s2.nx,Z7.cells 134 true [.int .i64 (k:Int),.int .i64 0,.str R])::s2.h) s2.nx=some (.cells 134 true [.int .i64 (k:Int),.int .i64 0,.str R]):=by simp[Ze]
 have hm0:=x2.nx
 generalize hS:(⟨(s2.nx,Z7.cells 134 true [.int .i64 (k:Int),.int .i64 0,.str R])::s2.h,s2.nx+1⟩:St)=sA at y1⊢
 rw[show (s2.nx,Z7.cells 134 true [.int .i64 (k:Int),.int .i64 0,.str R])::s2.h=sA.h by rw[←hS]]at hm
 clear hS
 generalize s2.nx=m at*
 have gb:=y1.get' hbl hb
 refine cut (c:=tb 8) rfl (by intro l;simp[tb,B.Z0,Qq]) (fun x e' s'=>x= .norm∧Ext stA s'∧Zb e' 2= .ptr r 0∧Zb e' 6= .ptr m 0∧Zh s'.h m=some (.cells 134 true [.int .i64 (k:Int),.int .i64 0,.str (if k=3∧Qg 3 0 R=false then Hw K else R)])) ?_ ?_
 ·simp only[tb,B.Z0,Qq]
  by_cases h3:k=3
  ·subst h3
   simp[go_sem,RO.run,g1,g2,g3,g6,Qd hm]
   refine(Bl H.Z4 y1.wf (by omega)).use fun s5 x5=> ?_
   have y5:=y1.trans x5
   have hm5:=x5.get y1.wf hm
   have gb5:=y5.get' hbl hb
   cases hrt:Qg 3 0 R with
   | true=>simp[go_sem,g1,g2,g3,g6,hrt,y5,hm5]
   | false=>
     obtain⟨q,s,n1,n2,n3,n4,n5⟩:=Zxu hK
     have y6:=y5.trans (Ext.new y5.wf (.cells 9 false [.str [97],.str [91],.str [93],.str [60,60],.str [62,62],.str [120,45,49],.str [61]]))
     have hm6:=(Ext.new y5.wf (.cells 9 false [.str [97],.str [91],.str [93],.str [60,60],.str [62,62],.str [120,45,49],.str [61]])).get y5.wf hm5
     have hmne:¬s5.nx=m:=by have:=y5.wf.lt _ _ hm5;omega
     have hbne:¬s5.nx=b:=by have:=y5.wf.lt _ _ gb5;omega
     have hw:Z5 ((s5.nx,Z7.cells 9 false [.str [97],.str [91],.str [93],.str [60,60],.str [62,62],.str [120,45,49],.str [61]])::s5.h) m 2 [.str (Hw K)]=some (Qi ((s5.nx,Z7.cells 9 false [.str [97],.str [91],.str [93],.str [60,60],.str [62,62],.str [120,45,49],.str [61]])::s5.h) m (.cells 134 true [.int .i64 3,.int .i64 0,.str (Hw K)])):=Y8 hm6 rfl (by simp)
     have y7:=y6.Qh hm6 (o:= .cells 134 true [.int .i64 3,.int .i64 0,.str (Hw K)]) (by omega)
     have hm7:=Zc (o:= .cells 134 true [.int .i64 3,.int .i64 0,.str (Hw K)]) hm6
     generalize Hw K=W at*
     have:s=0∨s=1∨s=2∨s=3∨s=4∨s=5∨s=6:=by omega
     rcases this with rfl | rfl | rfl | rfl | rfl | rfl | rfl <;> simp at n5 <;> subst n5 <;>
      simp[go_sem,RO.run,NO.run,WO.run,g1,g2,g3,g6,hrt,gb5,hbne,n1,n2,n3,Zo,Ze,hw,y7,hm7]
  ·rcases hk with rfl | rfl | rfl
   ·exact absurd rfl h3
   ·simp[go_sem,g1,g2,g3,g6,y1,hm]
   ·simp[go_sem,g1,g2,g3,g6,y1,hm]
 rintro _ e5 s5 ⟨rfl,y5,g2,g6,hm5⟩
 rw[Qw]
 have gr5:=y5.get' hrl hr
 have hw:=Zdl (vs:=[.int .i64 (k:Int),.int .i64 0,.str (if k=3∧Qg 3 0 R=false then Hw K else R)]) gr5 rfl rfl
 have z:=(hx0.trans y5).Qh gr5 (o:= .cells 134 true [.int .i64 (k:Int),.int .i64 0,.str (if k=3∧Qg 3 0 R=false then Hw K else R)]) hr0
 have hq:=Zc (o:= .cells 134 true [.int .i64 (k:Int),.int .i64 0,.str (if k=3∧Qg 3 0 R=false then Hw K else R)]) gr5
 generalize (if k=3∧Qg 3 0 R=false then Hw K else R)=W at*
 simp only[tb,B.Z0,Qq]
 simp[go_sem,RO.run,WO.run,g2,g6,Qd hm5,hw,z,hq]
end Go.Ev

/- The token of a draft; LexTexts. -/
namespace Go.Ev
open Go
variable {T : Tab} {st : St}
theorem Zr0 (H:B.Kw T) (hwf:st.Wf) {K:Nat} {N:Int} {t:List UInt8} (hK:K<256) (hN0: -2147483648≤N) (hN1:N≤2147483647) (ht:t.length<9223372036854775808):
  Qa T st (.fn 127 [] []) [.agg [.int .u8 (K:Int),.int .i32 N,.str t]] (.agg [.int .i64 (Ec K N t).1,.int .i64 (Ec K N t).2.1,.str (Ec K N t).2.2]):=by
 refine Zs H.e H.f rfl ?_
 have hxa:=Ext.new hwf (.cells 205 true [.int .u8 (K:Int),.int .i32 N,.str t])
 have hx:=hxa.trans (Ext.new hxa.wf (.cells 134 true [.int .i64 0,.int .i64 0,.str []]))
 simp only[Nat.add_assoc,Nat.reduceAdd]at hx
 have hb:Zh ((st.nx+1,Z7.cells 134 true [.int .i64 0,.int .i64 0,.str []])::(st.nx,.cells 205 true [.int .u8 (K:Int),.int .i32 N,.str t])::st.h) st.nx=some (.cells 205 true [.int .u8 (K:Int),.int .i32 N,.str t]):=by simp[Ze]
 have hr:Zh ((st.nx+1,Z7.cells 134 true [.int .i64 0,.int .i64 0,.str []])::(st.nx,.cells 205 true [.int .u8 (K:Int),.int .i32 N,.str t])::st.h) (st.nx+1)=some (.cells 134 true [.int .i64 0,.int .i64 0,.str []]):=by simp[Ze]
 refine cut (c:=tb 0) rfl (by intro l;simp[tb,B.Z0,Qq]) (fun x e' s'=>x= .norm∧s'=⟨(st.nx+1,.cells 134 true [.int .i64 0,.int .i64 0,.str []])::(st.nx,.cells 205 true [.int .u8 (K:Int),.int .i32 N,.str t])::st.h,st.nx+2⟩∧Zb e' 1= .ptr st.nx 0∧Zb e' 2= .ptr (st.nx+1) 0) ?_ ?_
 ·simp only[tb,B.Z0,Qq]
  simp[go_sem,NO.run,AV.nb,Nat.add_assoc]
 rintro _ e1 s1 ⟨rfl,hst,g1,g2⟩
 rw[Qw,hst]
 clear hst
 have hr0:st.nx≤st.nx+1:=Nat.le_succ _
 generalize hS:(⟨(st.nx+1,.cells 134 true [.int .i64 0,.int .i64 0,.str []])::(st.nx,.cells 205 true [.int .u8 (K:Int),.int .i32 N,.str t])::st.h,st.nx+2⟩:St)=sA at hx⊢
 rw[show (st.nx+1,Z7.cells 134 true [.int .i64 0,.int .i64 0,.str []])::(st.nx,.cells 205 true [.int .u8 (K:Int),.int .i32 N,.str t])::st.h=sA.h by rw[←hS]]at hb hr
 clear hS hxa
 generalize st.nx+1=r at*
 obtain⟨b,hbn⟩:∃b,b=st.nx:=⟨_,rfl⟩
 rw[←hbn]at hb g1
 clear hbn
 have hm:(K:Int).tmod 8=((K % 8:Nat):Int):=by rw[Int.tmod_eq_emod_of_nonneg (by omega)];omega
 have hlt:K % 8<8:=Nat.mod_lt _ (by omega)
 refine cut (c:=tb 1) rfl (by intro l;simp[tb,B.Z0,Qq]) (fun x e' s'=>x= .norm∧s'=sA∧Zb e' 1= .ptr b 0∧Zb e' 2= .ptr r 0∧Zb e' 3= .int .i64 ((1+K % 8:Nat):Int)) ?_ ?_
 ·have w1:IntKind.i64.wrap ((K % 8:Nat):Int)=((K % 8:Nat):Int):=Zf (by omega) (by omega)
  have w2:IntKind.i64.wrap (1+((K % 8:Nat):Int))=1+((K % 8:Nat):Int):=Zf (by omega) (by omega)
  have hk0:=Zm5 (k:=0) hb rfl
  generalize K % 8=q at*
  simp only[tb,B.Z0,Qq]
  simp[go_sem,RO.run,g1,g2,hk0,hm,w1,w2]
 rintro _ e2 s2 ⟨rfl,hst,g1,g2,g3⟩
 rw[Qw,hst]
 clear hst
 have h1:=Zm5 (k:=1) hb rfl
 have h2:=Zm5 (k:=2) hb rfl
 have wN:IntKind.i64.wrap N=N:=Zf (by omega) (by omega)
 have hlen:((min t.length 60:Nat):Int)=if(60:Int)<t.length then 60 else(t.length:Int):=by split <;> omega
 have hsub:Q6 t none (some (.int .i64 ((min t.length 60:Nat):Int)))=some (.str (t.take 60)):=by
  rw[E7 (by omega) (by omega)];simp[Nat.min_comm]
 obtain⟨OUT,hO⟩:∃O,O=Ec K N t:=⟨_,rfl⟩
 rw[←hO]
 have hw:=fun(a c:Int) (d:List UInt8)=>Qj (k':=a) (n':=c) (t':=d) hr
 have hset':=fun(a c:Int) (d:List UInt8)=>hx.Qh hr (o:= .cells 134 true [.int .i64 a,.int .i64 c,.str d]) hr0
 have hself:=fun(a c:Int) (d:List UInt8)=>Zc (o:= .cells 134 true [.int .i64 a,.int .i64 c,.str d]) hr
 refine Res.mono (Q:=fun x e' s'=>x= .ret∧Ext st s'∧Zb e' 2= .ptr r 0∧Zh s'.h r=some (.cells 134 true [.int .i64 OUT.1,.int .i64 OUT.2.1,.str OUT.2.2])) ?_ ?_
 rotate_left
 ·rintro x e' s' ⟨rfl,x1,k2,kr⟩
  refine⟨.inr rfl,?_⟩
  simp[B.Z0,Zg,Zm,Zr,go_sem,k2,RO.run,Qd kr,x1]
 refine cut (c:=tb 2) rfl (by intro l;simp[tb,B.Z0,Qq]) (fun x e' s'=>(x= .ret∧Ext st s'∧Zb e' 2= .ptr r 0∧Zh s'.h r=some (.cells 134 true [.int .i64 OUT.1,.int .i64 OUT.2.1,.str OUT.2.2]))∨((K % 8=2∨K % 8=3∨K % 8=4)∧x= .norm∧s'=sA∧Zb e' 1= .ptr b 0∧Zb e' 2= .ptr r 0∧Zb e' 3= .int .i64 ((1+K % 8:Nat):Int))) ?_ ?_
 ·unfold Ec at hO
  simp only[tb,B.Z0,Qq]
  have hq:K % 8=0∨K % 8=1∨K % 8=2∨K % 8=3∨K % 8=4∨K % 8=5∨K % 8=6∨K % 8=7:=by omega
  rcases hq with hq | hq | hq | hq | hq | hq | hq | hq <;> rw[hq]at hO g3⊢
  ·simp at hO
   subst hO
   simp[go_sem,RO.run,WO.run,g1,g2,g3,h1,h2,wN,hw,hset',hself]
  ·simp at hO
   subst hO
   simp[go_sem,RO.run,WO.run,g1,g2,g3,h1,h2,wN,hw,hset',hself]
  ·simp[go_sem,RO.run,WO.run,g1,g2,g3]
  ·simp[go_sem,RO.run,WO.run,g1,g2,g3]
  ·simp[go_sem,RO.run,WO.run,g1,g2,g3]
  ·simp at hO
   subst hO
   rw[hlen]at hsub
   simp[go_sem,RO.run,WO.run,g1,g2,g3,h1,h2,hsub,hw,hset',hself]
  ·simp at hO
   subst hO
   simp[go_sem,RO.run,WO.run,g1,g2,g3,hw,hset',hself]
  ·simp at hO
   subst hO
   simp[go_sem,RO.run,WO.run,g1,g2,g3,hw,hset',hself]
 rintro x e3 s3 (⟨rfl,h⟩ | ⟨hq,rfl,hst,g1,g2,g3⟩)
 ·exact⟨rfl,h⟩
 rw[Qw,hst]
 refine(Ztx H hK ht hx hb hr hr0 (k:=1+K % 8) (by omega) g1 g2 g3).mono ?_
 rintro x e' s' ⟨rfl,x1,k2,kr⟩
 refine⟨rfl,x1,k2,?_⟩
 have hOO:OUT=(((1+K % 8:Nat):Int),0,if 1+K % 8=3∧Qg 3 0 (Iy t)=false then Hw K else Iy t):=by
  rw[hO]
  unfold Ec
  rw[if_neg (by omega),if_neg (by omega),if_neg (by omega)]
  by_cases hc:K % 8=2∧Qg 3 0 (Iy t)=false
  ·rw[if_pos hc,if_pos ⟨by omega,hc.2⟩,hc.1];rfl
  ·rw[if_neg hc,if_neg (fun h=>hc ⟨by omega,h.2⟩)];simp
 rw[hOO]
 exact kr
end Go.Ev

/- LexTexts: the law told. -/
namespace Go.Ev
open Go
variable {T : Tab} {st : St}
theorem Zvb (K:Nat) (N:Int) (t:List UInt8):(Ec K N t).2.2.length≤60:=by
 have h1:(Iy t).length≤20:=by
  unfold Iy
  exact Nat.le_trans (List.length_filter_le _ _) (by rw[List.length_take];omega)
 have h2:(Hw K).length≤3:=by unfold Hw;split <;> simp
 unfold Ec
 split
 ·simp
 ·split
  ·simp;omega
  ·split
   ·simp
   ·split
    ·simp only;omega
    ·simp only;omega
end Go.Ev

/- Structs of two numbers and a text among the arguments; a table of the library among the objects. -/
namespace Go.Ev
open Go Go.RowKit Go.ChangeShapes Go.WideShapes Go.Deep Go.Joins
def Ay:List AV:=Lib.pow10Tab.map fun z=> .int .u64 z
theorem Zsb {X:Cx} {N:Nu}:∀zs:List Int,VRs X N (zs.map fun z=> .int .u64 z) (zs.map fun z=>Value.int .u64 z)
 | []=>rfl
 | z::zs=>⟨_,_,rfl,rfl,Zsb zs⟩
theorem wf_i32 {n:Int} (h:(Lit.int .i32 n).wf=true): -2147483648≤n∧n≤2147483647:=by
 simp[Lit.wf,IntKind.min,IntKind.max,IntKind.signed,IntKind.bits]at h
 omega
theorem Zq7 {P:Program} {W:World} {x y:String×DataW Unit} {name:String} {d:DataW Unit} {g:Nat} {t e:TypeId} {n:Nat} (hp:laidMetH P [x,y,(name,d)] W→laidMet P [x,y,(name,d)] W)
  (hd:d=Lib.tabData .u64 Lib.pow10Tab) (hg:P.globalNamed name=some g) (hty:(P.globals[g]?).map (·.type)=some t) (ht:P.underlying t=some (.array n e)) (he:P.underlying e=some (.int .u64)) (hce:P.cellsOf e=1) (hct:P.cellsOf t=n)
  (h:laidMetH P [x,y,(name,d)] W):Lib.TabIs P W name .u64 Lib.pow10Tab:=by
 subst hd
 exact Lib.tabIs_of_head hg hty ht he hce hct (laidMet.tail (laidMet.tail (hp h)))
end Go.Ev

/- strings.Join as an entry of the table. -/
namespace Go.Ev
open Go Go.RowKit
variable {X : Cx} {D : Nt} {T : Tab} {st : St}
namespace B
def Zks:List AV→Option (List (List UInt8))
 | []=>some []
 | .str s::r=>(match Zks r with | some l=>some (s::l) | none=>none)
 | _=>none
def X1:Entry:=fun args st=>match args with
 | [.Zk,.str sep]=>some (.str [],st)
 | [.slice n o len cp,.str sep]=>
   match Z1 st.h n o len with
   | some cs=>
     match Zks cs with
     | some xs=>if 1≤len∧len≤140737488355328∧(Lib.join xs sep).length≤140737488355328 then some (.str (Lib.join xs sep),st)else none
     | none=>none
   | none=>none
 | _=>none
end B
theorem Zsc {N:Nu}:∀{cs:List AV} {xs:List (List UInt8)} {us:List Value},B.Zks cs=some xs→VRs X N cs us→us=xs.map fun x=>Value.string ⟨x.toArray⟩
 | [],xs,us,h,hv=>by simp only[B.Zks,Option.some.injEq]at h;subst h;exact hv
 | c::cs,xs,us,h,hv=>by
   cases c <;> simp only[B.Zks]at h <;> try (cases h;done)
   split at h
   ·rename_i l hl
    cases h
    obtain⟨u,us,rfl,h0,h1⟩:=hv
    cases h0
    rw[Zsc hl h1];rfl
   ·cases h
theorem Zs5 {f:Nat} (hb:Zgn X.P (X.φ f)=true)
  (h0:∀(sep:ByteArray) (w:World),Calls X.P (X.φ f) #[.slice none 0 0,.string sep] w fun e w'=>e= .returned (.string ⟨#[]⟩)∧w'=w)
  (h:∀(bk o c:Nat) (xs:List ByteArray) (sep:ByteArray) (w:World),(∀(j:Nat) x,xs[j]? =some x→w.cell? ⟨bk,o+j,none⟩=some (.string x))→bk<w.heap.size→xs.length≤140737488355328→xs.length≤c→
    (Lib.join (xs.map (·.data.toList)) sep.data.toList).length≤140737488355328→Calls X.P (X.φ f) #[.slice (some ⟨bk,o,none⟩) xs.length c,.string sep] w fun e w'=>e= .returned (.string ⟨(Lib.join (xs.map (·.data.toList)) sep.data.toList).toArray⟩)∧Below w.heap.size w w'):Ww D X f B.X1:=by
 refine Ph hb fun args st v st' hF=> ?_
 unfold B.X1 at hF
 split at hF
 ·cases hF
  refine⟨rfl,fun N us w hr hus=> ?_⟩
  obtain⟨u0,us0,rfl,h00,u1,us1,rfl,h1,rfl⟩:=hus
  cases h00
  cases h1
  exact⟨_,rfl,(h0 _ w).mono fun e w' ⟨a,b⟩=>⟨by simpa using a,by subst b;exact Below.refl _ _⟩⟩
 ·rename_i n o len cp sep
  split at hF
  case h_2=>cases hF
  rename_i cs hcs
  split at hF
  case h_2=>cases hF
  rename_i xs hxs
  split at hF
  case isFalse=>cases hF
  rename_i hc
  cases hF
  refine⟨rfl,fun N us w hr hus=> ?_⟩
  obtain⟨u0,us0,rfl,h00,u1,us1,rfl,h1,rfl⟩:=hus
  cases h1
  obtain⟨a,cpv,ha,rfl,hle,_⟩:=h00
  obtain⟨a',us,ha',hv,hl,hcell⟩:=Xm hr hcs
  rw[ha]at ha'
  cases ha'
  have e:=Zsc hxs hv
  subst e
  have hlen:xs.length=len:=by simpa using hl
  have Zh:∀(j:Nat) (x:ByteArray),(xs.map fun x=>(⟨x.toArray⟩:ByteArray))[j]? =some x→w.cell? ⟨a.block,a.off+o+j,none⟩=some (.string x):=by
   intro j x hj
   rw[List.getElem?_map]at hj
   cases hx:xs[j]? with
   | none=>rw[hx]at hj;cases hj
   | some y=>
     rw[hx]at hj
     cases hj
     have:=hcell j (.string ⟨y.toArray⟩) (by rw[List.getElem?_map,hx];rfl)
     rw[Nat.add_assoc]
     exact this
  have hbk:a.block<w.heap.size:=by
   have hx0:∃y,xs[0]? =some y:=⟨_,List.getElem?_eq_getElem (by omega)⟩
   obtain⟨y,hy⟩:=hx0
   have:=hcell 0 (.string ⟨y.toArray⟩) (by rw[List.getElem?_map,hy];rfl)
   unfold World.cell? at this
   cases hh:w.heap[a.block]? with
   | none=>simp[hh]at this
   | some ob=>exact(Array.getElem?_eq_some_iff.1 hh).1
  have hmm:(xs.map fun x=>(⟨x.toArray⟩:ByteArray)).map (·.data.toList)=xs:=by simp[Function.comp_def]
  have hcall:=h a.block (a.off+o) cpv (xs.map fun x=>(⟨x.toArray⟩:ByteArray)) ⟨sep.toArray⟩ w Zh hbk (by simp;omega) (by simp;omega) (by rw[hmm];simpa using hc.2.2)
  rw[hmm]at hcall
  rw[List.length_map,hlen]at hcall
  exact⟨_,rfl,hcall.mono fun e w' ⟨a,b⟩=>⟨by simpa using a,b⟩⟩
 ·cases hF
end Go.Ev
