/- The plain law of numbers: a text whose runs of digits are cut to one digit is a decimal if the whole text is. -/
import Derived.Test.YthckfhllgpfidaaGreatDoorP06
import Derived.Test.YthckfhllgpfidaaGreatDoorP04
import Derived.Stop.LaidErr
import Derived.Lib.LaidTab
import Derived.SizedLaws
import Derived.Lib.Join
set_option linter.unusedSimpArgs false
set_option linter.unusedVariables false
set_option linter.unusedSectionVars false
namespace Go.Ev
open Go
theorem shorten_exp:∀(pd:Bool) (t:List UInt8),shorten pd false t=t
 | _,[]=>rfl
 | pd,c::r=>by
   simp only[shorten,Bool.false_and]
   rw[if_neg (by simp),shorten_exp]
theorem shorten_not {pd:Bool} {c:UInt8} (r:List UInt8) (h:isDig c=false) (hx:isExp c=false):shorten pd true (c::r)=c::shorten false true r:=by
 simp[shorten,h,hx]
theorem shorten_e {pd:Bool} {c:UInt8} (r:List UInt8) (h:isDig c=false) (hx:isExp c=true):shorten pd true (c::r)=c::r:=by
 simp[shorten,h,hx,shorten_exp]
theorem shorten_dig {c:UInt8} (r:List UInt8) (h:isDig c=true) (hx:isExp c=false):shorten false true (c::r)=c::shorten true true r∧shorten true true (c::r)=shorten true true r:=by
 simp[shorten,h,hx]
theorem dig_exp {c:UInt8} (h:isDig c=true):isExp c=false:=by
 have:=(isDig_iff c).1 h
 simp only[isExp,Bool.or_eq_false_iff,decide_eq_false_iff_not]
 exact⟨by rintro rfl;simp at this,by rintro rfl;simp at this⟩
theorem shorten_run:∀r:List UInt8,shorten true true r=shorten false true (spanD r).2
 | []=>rfl
 | c::r=>by
   by_cases h:isDig c=true
   ·rw[(shorten_dig r h (dig_exp h)).2,shorten_run r]
    have hd:=(isDig_iff c).1 h
    simp[spanD,hd]
   ·have hf:isDig c=false:=by simpa using h
    have hd:¬(48≤c.toNat∧c.toNat≤57):=fun h'=>h ((isDig_iff c).2 h')
    have hsp:(spanD (c::r)).2=c::r:=by simp[spanD,hd]
    rw[hsp]
    cases hx:isExp c with
    | true=>rw[shorten_e r hf hx,shorten_e r hf hx]
    | false=>rw[shorten_not r hf hx,shorten_not r hf hx]
theorem shorten_head (R:List UInt8):(shorten false true R=[]↔R=[])∧(∀set,oneB set (shorten false true R)=oneB set R):=by
 cases R with
 | nil=>simp[shorten]
 | cons c r=>
   have:∃r',shorten false true (c::r)=c::r':=by
    simp only[shorten]
    rw[if_neg (by simp)]
    exact⟨_,rfl⟩
   obtain⟨r',h⟩:=this
   rw[h]
   simp[oneB]
theorem spanD_nodig {R:List UInt8} (h:∀c r,R=c::r→isDig c=false):spanD R=([],R):=by
 cases R with
 | nil=>rfl
 | cons c r=>
   have:=h c r rfl
   have hd:¬(48≤c.toNat∧c.toNat≤57):=fun h'=>by rw[(isDig_iff c).2 h']at this;cases this
   simp[spanD,hd]
theorem spanD_rest_nodig:∀u:List UInt8,∀c r,(spanD u).2=c::r→isDig c=false
 | [],c,r,h=>by cases h
 | d::u,c,r,h=>by
   by_cases hd:48≤d.toNat∧d.toNat≤57
   ·have:(spanD (d::u)).2=(spanD u).2:=by simp[spanD,hd]
    rw[this]at h
    exact spanD_rest_nodig u c r h
   ·have:(spanD (d::u)).2=d::u:=by simp[spanD,hd]
    rw[this]at h
    injection h with h1 h2
    subst h1
    cases hq:isDig d with
    | false=>rfl
    | true=>exact absurd ((isDig_iff d).1 hq) hd
theorem shorten_nodig {R:List UInt8} (h:∀c r,R=c::r→isDig c=false):∀c r,shorten false true R=c::r→isDig c=false:=by
 intro c r hs
 cases R with
 | nil=>cases hs
 | cons d u=>
   have hd:=h d u rfl
   simp only[shorten]at hs
   rw[if_neg (by simp)]at hs
   injection hs with h1 h2
   rw[←h1];exact hd
theorem spanD_shorten (u:List UInt8):(spanD (shorten false true u)).2=shorten false true (spanD u).2∧((spanD (shorten false true u)).1=[]↔(spanD u).1=[])∧(spanD (shorten false true u)).1.length≤1:=by
 cases u with
 | nil=>simp[shorten,spanD]
 | cons c r=>
   by_cases h:isDig c=true
   ·have hd:=(isDig_iff c).1 h
    rw[(shorten_dig r h (dig_exp h)).1,shorten_run r]
    have hn:=spanD_nodig (shorten_nodig (spanD_rest_nodig r))
    simp[spanD,hd,hn]
   ·have hf:isDig c=false:=by simpa using h
    have hd:¬(48≤c.toNat∧c.toNat≤57):=fun h'=>h ((isDig_iff c).2 h')
    have hsp:spanD (c::r)=([],c::r):=by simp[spanD,hd]
    have hn:=spanD_nodig (shorten_nodig (R:=c::r) (fun c' r' h'=>by injection h' with h1;rw[←h1];exact hf))
    rw[hsp,hn]
    simp
theorem sgn_shorten (s:List UInt8):sgn (shorten false true s)=((sgn s).1,shorten false true (sgn s).2):=by
 cases s with
 | nil=>rfl
 | cons c r=>
   have hk:∃r',shorten false true (c::r)=c::r':=by
    simp only[shorten]
    rw[if_neg (by simp)]
    exact⟨_,rfl⟩
   by_cases h:c=45
   ·subst h
    rw[shorten_not r (by rfl) (by rfl)]
    simp[sgn]
   ·by_cases h':c=43
    ·subst h'
     rw[shorten_not r (by rfl) (by rfl)]
     simp[sgn]
    ·obtain⟨r',h2⟩:=hk
     have e1:sgn (c::r)=(false,c::r):=by simp[sgn,h,h']
     rw[e1]
     simp only
     rw[h2]
     simp[sgn,h,h']
theorem shorten_tail {R:List UInt8} (h:oneB [46] R=true):(shorten false true R).tail=shorten false true R.tail:=by
 cases R with
 | nil=>simp[oneB]at h
 | cons c r=>
   simp[oneB]at h
   subst h
   rw[shorten_not r (by rfl) (by rfl)]
   rfl
theorem shorten_etail {R:List UInt8} (h:oneB [101,69] R=true):(shorten false true R).tail=R.tail:=by
 cases R with
 | nil=>simp[oneB]at h
 | cons c r=>
   simp[oneB]at h
   rcases h with rfl | rfl
   ·rw[shorten_e r (by rfl) (by rfl)]
   ·rw[shorten_e r (by rfl) (by rfl)]
theorem decR_shorten (s:List UInt8):decR (shorten false true s)=shorten false true (decR s)∧(decL (shorten false true s)=[]↔decL s=[]):=by
 unfold decR decL
 rw[sgn_shorten]
 simp only
 obtain⟨a1,a2,a3⟩:=spanD_shorten (sgn s).2
 have hh:=(shorten_head (spanD (sgn s).2).2).2 [46]
 rw[←a1]at hh
 by_cases hp:oneB [46] (spanD (sgn s).2).2=true
 ·rw[hp]at hh
  obtain⟨b1,b2,b3⟩:=spanD_shorten (spanD (sgn s).2).2.tail
  rw[if_pos hh,if_pos hp,if_pos hh,if_pos hp,a1,shorten_tail hp]
  exact⟨b1,by rw[List.append_eq_nil_iff,List.append_eq_nil_iff,a2,b2]⟩
 ·have hh':¬oneB [46] (spanD (shorten false true (sgn s).2)).2=true:=by rw[hh];exact hp
  rw[if_neg hh',if_neg hp,if_neg hh',if_neg hp]
  exact⟨a1,a2⟩
theorem decD_shorten (s:List UInt8):decD (shorten false true s)=none↔decD s=none:=by
 obtain⟨r1,r2⟩:=decR_shorten s
 have hh:=shorten_head (decR s)
 unfold decD
 rw[r1]
 by_cases hL:decL s=[]
 ·rw[if_pos hL,if_pos (r2.2 hL)]
 ·rw[if_neg hL,if_neg (fun h=>hL (r2.1 h))]
  have ho:=hh.2 [101,69]
  by_cases he:oneB [101,69] (decR s)=true
  ·rw[if_pos he,if_pos (by rw[ho];exact he),shorten_etail he]
   by_cases hlen:(spanD (sgn (decR s).tail).2).1.length<1∨3<(spanD (sgn (decR s).tail).2).1.length
   ·rw[if_pos hlen,if_pos hlen]
   ·rw[if_neg hlen,if_neg hlen]
    by_cases hz:(spanD (sgn (decR s).tail).2).2=[]
    ·rw[if_pos hz,if_pos hz];simp
    ·rw[if_neg hz,if_neg hz]
  ·rw[if_neg he,if_neg (by rw[ho];exact he)]
   by_cases hz:decR s=[]
   ·rw[if_pos hz,if_pos (hh.1.2 hz)];simp
   ·rw[if_neg hz,if_neg (fun h=>hz (hh.1.1 h))]
end Go.Ev

/- The plain law of numbers: values. -/
namespace Go.Ev
open Go
theorem numF_eq:∀(l:List Nat) (n:Nat),l.foldl (fun a d=>10*a+d) n=n*10 ^ l.length+numD l
 | [],n=>by simp[numD]
 | d::l,n=>by
   rw[List.foldl_cons,numF_eq l]
   have:numD (d::l)=d*10 ^ l.length+numD l:=by
    show List.foldl _ (10*0+d) l=_
    rw[numF_eq l];simp
   rw[this,List.length_cons,Nat.pow_succ]
   have e:(10*n+d)*10 ^ l.length=n*(10 ^ l.length*10)+d*10 ^ l.length:=by
    rw[Nat.add_mul];congr 1
    rw[Nat.mul_comm 10 n,Nat.mul_assoc,Nat.mul_comm 10]
   omega
theorem numD_cons (d:Nat) (l:List Nat):numD (d::l)=d*10 ^ l.length+numD l:=by
 show List.foldl _ (10*0+d) l=_
 rw[numF_eq l];simp
theorem numD_append (a b:List Nat):numD (a++b)=numD a*10 ^ b.length+numD b:=by
 rw[numD,List.foldl_append,numF_eq];rfl
theorem numD_zeros:∀k,numD (List.replicate k 0)=0
 | 0=>rfl
 | k+1=>by rw[List.replicate_succ,numD_cons,numD_zeros k];simp
theorem numD_zero:∀l:List Nat,numD l=0↔∀d∈l,d=0
 | []=>by simp[numD]
 | d::l=>by
   rw[numD_cons,Nat.add_eq_zero_iff,numD_zero l,Nat.mul_eq_zero]
   have:(10 ^ l.length:Nat)≠0:=Nat.ne_of_gt (Nat.pow_pos (by omega))
   simp[this]
theorem any_ne (l:List Nat):(l.any fun d=>decide (d≠0))=decide (numD l≠0):=by
 rw[Bool.eq_iff_iff]
 simp only[List.any_eq_true,decide_eq_true_eq,ne_eq,numD_zero]
 constructor
 ·rintro⟨x,hx,hn⟩ hall;exact hn (hall x hx)
 ·intro h
  exact Classical.byContradiction fun hno=>h fun d hd=>Classical.byContradiction fun hne=>hno ⟨d,hd,hne⟩
theorem dbl_num:∀l:List Nat,(dbl l).1*10 ^ l.length+numD (dbl l).2=2*numD l
 | []=>rfl
 | d::l=>by
   have ih:=dbl_num l
   simp only[dbl,numD_cons,dbl_len,List.length_cons,Nat.pow_succ]
   generalize numD l=A at*
   generalize numD (dbl l).2=B at*
   generalize (dbl l).1=c at*
   generalize 10 ^ l.length=p at*
   have e1:(2*d+c) / 10*(p*10)+(2*d+c) % 10*p=(2*d+c)*p:=by
    have:=Nat.div_add_mod (2*d+c) 10
    generalize (2*d+c) / 10=q at*
    generalize (2*d+c) % 10=r at*
    rw[←this,Nat.add_mul,Nat.mul_comm p 10,←Nat.mul_assoc,Nat.mul_comm q 10]
   have e2:(2*d+c)*p=2*(d*p)+c*p:=by rw[Nat.add_mul,Nat.mul_assoc]
   omega
theorem bitsF_num:∀(m n:Nat) (l:List Nat),(bitsF m n l).1*10 ^ l.length+numD (bitsF m n l).2=(n*10 ^ l.length+numD l)*2 ^ m∧(bitsF m n l).2.length=l.length
 | 0,n,l=>by simp[bitsF]
 | m+1,n,l=>by
   have ih:=bitsF_num m (2*n+(dbl l).1) (dbl l).2
   have hd:=dbl_num l
   simp only[bitsF,dbl_len]at*
   refine⟨?_,ih.2⟩
   rw[ih.1,Nat.pow_succ]
   generalize numD l=A at*
   generalize numD (dbl l).2=B at*
   generalize (dbl l).1=c at*
   generalize 10 ^ l.length=p at*
   have e:(2*n+c)*p+B=(n*p+A)*2:=by
    rw[Nat.add_mul,Nat.mul_assoc];omega
   rw[e,Nat.mul_assoc,Nat.mul_comm 2]
theorem mul1_num:∀l:List Nat,(mul1 l).2*10 ^ l.length+numD (mul1 l).1=131072*numD l
 | []=>rfl
 | d::l=>by
   have ih:=mul1_num l
   simp only[mul1,numD_cons,mul1_len,List.length_cons,Nat.pow_succ]
   generalize numD l=A at*
   generalize numD (mul1 l).1=B at*
   generalize (mul1 l).2=c at*
   generalize 10 ^ l.length=p at*
   generalize hM:131072=M at*
   have e1:(M*d+c) / 10*(p*10)+(M*d+c) % 10*p=(M*d+c)*p:=by
    have:=Nat.div_add_mod (M*d+c) 10
    generalize (M*d+c) / 10=q at*
    generalize (M*d+c) % 10=r at*
    rw[←this,Nat.add_mul,Nat.mul_comm p 10,←Nat.mul_assoc,Nat.mul_comm q 10]
   have e2:(M*d+c)*p=M*(d*p)+c*p:=by rw[Nat.add_mul,Nat.mul_assoc]
   rw[Nat.mul_add]
   omega
theorem pad_num:∀k c:Nat,numD (pad k c)=c % 10 ^ k
 | 0,c=>by simp[pad,numD,Nat.mod_one]
 | k+1,c=>by
   rw[pad,numD_append,pad_num k,numD_cons,Nat.pow_succ,Nat.mul_comm (10 ^ k) 10,Nat.mod_mul]
   simp[numD];omega
theorem timesS_num {l:List Nat} (hd:∀d∈l,d<10):numD (timesS l)=131072*numD l∧(timesS l).length=l.length+6∧∀d∈timesS l,d<10:=by
 refine⟨?_,?_,?_⟩
 ·rw[timesS,numD_append,pad_num,mul1_len,Nat.mod_eq_of_lt (by have:=mul1_lt l hd;omega)]
  exact mul1_num l
 ·simp[timesS,pad_len,mul1_len];omega
 ·intro d h
  rcases List.mem_append.1 h with h | h
  ·exact pad_dig _ _ d h
  ·exact mul1_dig _ d h
theorem accD_zero:∀(l:List Nat) (N:Nat) (r:Bool),accD 0 l N r=(N,r || decide (numD l≠0))
 | [],N,r=>by simp[accD,numD]
 | d::l,N,r=>by
   rw[accD,accD_zero l,←any_ne,←any_ne];simp[Bool.or_assoc]
theorem accD_num:∀(k:Nat) (l:List Nat) (n:Nat) (r:Bool),k≤l.length→accD k l (min n 1099511627776) r=(min (n*10 ^ k+numD (l.take k)) 1099511627776,r || decide (numD (l.drop k)≠0))
 | 0,l,n,r,_=>by rw[accD_zero];simp only[Nat.pow_zero,Nat.mul_one,List.take_zero,List.drop_zero];rfl
 | k+1,[],n,r,h=>by simp at h
 | k+1,d::l,n,r,h=>by
   rw[accD]
   have hm:min (10*min n 1099511627776+d) 1099511627776=min (10*n+d) 1099511627776:=by omega
   have hk:k≤l.length:=by simpa using h
   rw[hm,accD_num k l _ r hk,List.take_succ_cons,List.drop_succ_cons,numD_cons,List.length_take,Nat.min_eq_left hk,Nat.pow_succ]
   congr 2
   have e:(10*n+d)*10 ^ k=n*(10 ^ k*10)+d*10 ^ k:=by
    rw[Nat.add_mul];congr 1
    rw[Nat.mul_comm 10 n,Nat.mul_assoc,Nat.mul_comm 10]
   omega
theorem take_drop_num {l:List Nat} (hd:∀d∈l,d<10) {k:Nat} (hk:k≤l.length):numD (l.take k)=numD l / 10 ^ (l.length - k)∧numD (l.drop k)=numD l % 10 ^ (l.length - k):=by
 have h1:numD l=numD (l.take k)*10 ^ (l.length - k)+numD (l.drop k):=by
  have:=numD_append (l.take k) (l.drop k)
  rwa[List.take_append_drop,List.length_drop]at this
 have h2:numD (l.drop k)<10 ^ (l.length - k):=by
  have:=numD_lt (l:=l.drop k) (fun d h=>hd d (List.mem_of_mem_drop h))
  rwa[List.length_drop]at this
 have hp:0<10 ^ (l.length - k):=Nat.pow_pos (by omega)
 constructor
 ·rw[h1,Nat.mul_comm,Nat.mul_add_div hp,Nat.div_eq_of_lt h2];simp
 ·rw[h1,Nat.mul_comm,Nat.mul_add_mod,Nat.mod_eq_of_lt h2]
def unitsN (l:List Nat) (ex:Int):Nat:=131072*numD l*10 ^ ex.toNat / 10 ^ (-ex).toNat
def unitsR (l:List Nat) (ex:Int):Bool:=decide (131072*numD l*10 ^ ex.toNat % 10 ^ (-ex).toNat≠0)
theorem acc_units {l:List Nat} (hd:∀d∈l,d<10) (ex:Int):accD (((l.length+6:Nat):Int)+ex).toNat (timesS l++List.replicate ex.toNat 0) 0 false=(min (unitsN l ex) 1099511627776,unitsR l ex):=by
 obtain⟨t1,t2,t3⟩:=timesS_num hd
 generalize hL:timesS l++List.replicate ex.toNat 0=L
 have hn:numD L=131072*numD l*10 ^ ex.toNat:=by
  rw[←hL,numD_append,numD_zeros,t1];simp
 have hlen:L.length=l.length+6+ex.toNat:=by rw[←hL];simp[t2]
 have hLd:∀d∈L,d<10:=by
  intro d h
  rw[←hL]at h
  rcases List.mem_append.1 h with h | h
  ·exact t3 d h
  ·rw[List.eq_of_mem_replicate h];omega
 generalize hC:(((l.length+6:Nat):Int)+ex).toNat=C
 have hCL:C≤L.length:=by omega
 have h0:=accD_num C L 0 false hCL
 rw[show min 0 1099511627776=0 from rfl]at h0
 rw[h0]
 obtain⟨k1,k2⟩:=take_drop_num hLd hCL
 simp only[Nat.zero_mul,Nat.zero_add,Bool.false_or]
 unfold unitsN unitsR
 rw[k1,k2,←hn]
 by_cases hpos:0≤((l.length+6:Nat):Int)+ex
 ·rw[show L.length - C=(-ex).toNat by omega]
 ·have hlt:=numD_lt hLd
  have e0:L.length - C=L.length:=by omega
  have hle:L.length≤(-ex).toNat:=by omega
  have hlt2:=Nat.lt_of_lt_of_le hlt (Nat.pow_le_pow_right (show 0<10 by omega) hle)
  rw[e0,Nat.div_eq_of_lt hlt,Nat.div_eq_of_lt hlt2,Nat.mod_eq_of_lt hlt,Nat.mod_eq_of_lt hlt2]
theorem frontF_num:∀(l:List Nat) (n:Nat),n≤2147483648→(2147483648<frontF n l↔2147483648<n*10 ^ l.length+numD l)∧(frontF n l≤2147483648→frontF n l=n*10 ^ l.length+numD l)
 | [],n,h=>by simp[frontF,numD]
 | d::l,n,h=>by
   have e:(10*n+d)*10 ^ l.length=n*10 ^ (l.length+1)+d*10 ^ l.length:=by
    rw[Nat.add_mul,Nat.pow_succ];congr 1
    rw[Nat.mul_comm 10 n,Nat.mul_assoc,Nat.mul_comm 10]
   have hp:1≤10 ^ l.length:=Nat.pow_pos (by omega)
   rw[frontF,numD_cons,List.length_cons]
   split
   ·rename_i hb
    have:=Nat.mul_le_mul (Nat.le_refl (10*n+d)) hp
    refine⟨⟨fun _=>by omega,fun _=>hb⟩,fun h=>by omega⟩
   ·have ih:=frontF_num l (10*n+d) (by omega)
    rw[e,Nat.add_assoc]at ih
    exact ih
theorem getD_range (l:List Nat):∀n,(List.range n).map (fun i=>l.getD i 0)=l.take n++List.replicate (n - l.length) 0
 | 0=>by simp
 | n+1=>by
   rw[List.range_succ,List.map_append,getD_range l n]
   by_cases h:n<l.length
   ·rw[show n - l.length=0 by omega,show n+1 - l.length=0 by omega,List.take_add_one]
    simp[List.getElem?_eq_getElem h]
   ·rw[List.take_of_length_le (by omega),List.take_of_length_le (by omega),show n+1 - l.length=(n - l.length)+1 by omega,List.replicate_succ']
    simp[List.getElem?_eq_none (show l.length≤n by omega)]
theorem parts_num {l:List Nat} (pt:Int):numD (intD l pt)*10 ^ (fracD l pt).length+numD (fracD l pt)=numD l*10 ^ (pt - (l.length:Int)).toNat∧(fracD l pt).length=(-(pt - (l.length:Int))).toNat:=by
 unfold intD fracD
 rw[getD_range]
 have hlen:(List.replicate (-pt).toNat 0++l.drop pt.toNat).length=(-(pt - (l.length:Int))).toNat:=by
  simp;omega
 refine⟨?_,hlen⟩
 rw[hlen]
 by_cases h0:pt<0
 ·rw[show pt.toNat=0 by omega,show (pt - (l.length:Int)).toNat=0 by omega]
  rw[numD_append (List.replicate (-pt).toNat 0),numD_zeros]
  simp[numD]
 ·rw[show (-pt).toNat=0 by omega]
  by_cases h1:pt.toNat≤l.length
  ·have:=numD_append (l.take pt.toNat) (l.drop pt.toNat)
   rw[List.take_append_drop,List.length_drop]at this
   rw[show pt.toNat - l.length=0 by omega,show (pt - (l.length:Int)).toNat=0 by omega,show (-(pt - (l.length:Int))).toNat=l.length - pt.toNat by omega]
   simp[this]
  ·rw[List.take_of_length_le (by omega),List.drop_of_length_le (by omega),numD_append,numD_zeros,List.length_replicate,show (-(pt - (l.length:Int))).toNat=0 by omega,show pt.toNat - l.length=(pt - (l.length:Int)).toNat by omega]
   simp[numD]
theorem bits_units {l:List Nat} {pt:Int} (hd:∀d∈l,d<10) (hf:frontF 0 (intD l pt)≤2147483648):unitsN l (pt - (l.length:Int))=2*(bitsF 16 (frontF 0 (intD l pt)) (fracD l pt)).1+(dbl (bitsF 16 (frontF 0 (intD l pt)) (fracD l pt)).2).1∧
  unitsR l (pt - (l.length:Int))=((dbl (bitsF 16 (frontF 0 (intD l pt)) (fracD l pt)).2).2.any fun d=>decide (d≠0)):=by
 obtain⟨p1,p2⟩:=parts_num (l:=l) pt
 have hF:=(frontF_num (intD l pt) 0 (by omega)).2 hf
 rw[Nat.zero_mul,Nat.zero_add]at hF
 rw[hF]
 have hfd:∀d∈fracD l pt,d<10:=by
  intro d h
  unfold fracD at h
  rcases List.mem_append.1 h with h | h
  ·rw[List.eq_of_mem_replicate h];omega
  ·exact hd d (List.mem_of_mem_drop h)
 generalize intD l pt=I at*
 generalize fracD l pt=f at*
 obtain⟨b1,b2⟩:=bitsF_num 16 (numD I) f
 generalize bitsF 16 (numD I) f=b at*
 have d1:=dbl_num b.2
 have d2:=numD_lt (l:=(dbl b.2).2) (dbl_lt b.2)
 rw[dbl_len]at d2
 rw[b2]at d1 d2
 rw[any_ne]
 unfold unitsN unitsR
 rw[←p2]
 have e:131072*numD l*10 ^ (pt - (l.length:Int)).toNat=10 ^ f.length*(2*b.1+(dbl b.2).1)+numD (dbl b.2).2:=by
  rw[Nat.mul_assoc,←p1,Nat.mul_add (10 ^ f.length),Nat.mul_comm (10 ^ f.length),Nat.mul_comm (10 ^ f.length),Nat.mul_assoc 2]
  have e2:(numD I*10 ^ f.length+numD f)*2 ^ 16=65536*(numD I*10 ^ f.length+numD f):=Nat.mul_comm _ _
  generalize numD I*10 ^ f.length+numD f=Y at*
  generalize b.1*10 ^ f.length=A at*
  generalize (dbl b.2).1*10 ^ f.length=C at*
  omega
 rw[e]
 have hp:0<10 ^ f.length:=Nat.pow_pos (by omega)
 rw[Nat.mul_add_div hp,Nat.div_eq_of_lt d2,Nat.mul_add_mod,Nat.mod_eq_of_lt d2]
 simp
theorem front_units {l:List Nat} {pt:Int} (hf:2147483648<frontF 0 (intD l pt)):1099511627776≤unitsN l (pt - (l.length:Int)):=by
 obtain⟨p1,p2⟩:=parts_num (l:=l) pt
 have hF:=(frontF_num (intD l pt) 0 (by omega)).1.1 hf
 rw[Nat.zero_mul,Nat.zero_add]at hF
 unfold unitsN
 rw[←p2,Nat.mul_assoc,←p1]
 have hp:0<10 ^ (fracD l pt).length:=Nat.pow_pos (by omega)
 rw[Nat.le_div_iff_mul_le hp,Nat.mul_add]
 generalize 10 ^ (fracD l pt).length=p at*
 have:=Nat.mul_le_mul (show 8388608≤numD (intD l pt)by omega) (Nat.le_refl p)
 generalize numD (intD l pt)*p=A at*
 generalize numD (fracD l pt)=B at*
 omega
theorem bitsF_dig:∀(m n:Nat) (l:List Nat),(∀d∈l,d<10)→∀d∈(bitsF m n l).2,d<10
 | 0,n,l,h=>h
 | m+1,n,l,h=>bitsF_dig m _ _ (dbl_lt l)
theorem fracD_dig {l:List Nat} (hd:∀d∈l,d<10) (pt:Int):∀d∈fracD l pt,d<10:=by
 intro d h
 unfold fracD at h
 rcases List.mem_append.1 h with h | h
 ·rw[List.eq_of_mem_replicate h];omega
 ·exact hd d (List.mem_of_mem_drop h)
theorem round_half {u B c:Nat} (h:u=2*B+c) (hc:c≤1) (neg r:Bool):(let n:=if c=1∧(neg=false∨r=true)then B+1 else B;let v:Int:=if neg=true then -(n:Int)else n;if -2147483648≤v∧v≤2147483648 then some v else none)=
  (let R:=((if neg=true then(if r=true then -((min u 1099511627776:Nat):Int) - 1 else -((min u 1099511627776:Nat):Int))else((min u 1099511627776:Nat):Int))+1) / 2;if -2147483648≤R∧R≤2147483648 then some R else none):=by
 have hc:c=0∨c=1:=by omega
 by_cases hu:u≤1099511627776
 ·rw[Nat.min_eq_left hu]
  have key:∀v w:Int,v=w→(if -2147483648≤v∧v≤2147483648 then some v else none)=(if -2147483648≤w∧w≤2147483648 then some w else none):=by rintro v _ rfl;rfl
  apply key
  rcases hc with rfl | rfl <;> cases neg <;> cases r <;> simp <;> omega
 ·rw[Nat.min_eq_right (by omega)]
  have key:∀v w:Int,¬(-2147483648≤v∧v≤2147483648)→¬(-2147483648≤w∧w≤2147483648)→(if -2147483648≤v∧v≤2147483648 then some v else none)=(if -2147483648≤w∧w≤2147483648 then some w else none):=by intro v w h1 h2;rw[if_neg h1,if_neg h2]
  apply key
  ·rcases hc with rfl | rfl <;> cases neg <;> cases r <;> simp <;> omega
  ·cases neg <;> cases r <;> simp
theorem val_law {l:List Nat} (hd:∀d∈l,d<10) (neg:Bool) (pt:Int):valS neg l pt=if -2147483648≤roundR neg l (pt - l.length)∧roundR neg l (pt - l.length)≤2147483648 then some (roundR neg l (pt - l.length))else none:=by
 have ha:=acc_units hd (pt - l.length)
 unfold valS roundR
 rw[ha]
 by_cases hf:2147483648<frontF 0 (intD l pt)
 ·have hu:=front_units hf
  rw[if_pos hf,if_neg]
  generalize unitsN l (pt - (l.length:Int))=u at*
  generalize unitsR l (pt - (l.length:Int))=r at*
  rw[Nat.min_eq_right hu]
  cases neg <;> cases r <;> simp
 ·rw[if_neg hf]
  obtain⟨u1,u2⟩:=bits_units hd (Nat.not_lt.1 hf)
  have c1:=dbl_carry _ (bitsF_dig 16 (frontF 0 (intD l pt)) _ (fracD_dig hd pt))
  clear ha hf hd
  dsimp only
  generalize bitsF 16 (frontF 0 (intD l pt)) (fracD l pt)=b at*
  generalize unitsN l (pt - (l.length:Int))=u at*
  generalize unitsR l (pt - (l.length:Int))=r at*
  subst u2
  generalize ((dbl b.2).2.any fun d=>decide (d≠0))=r at*
  generalize (dbl b.2).1=c at*
  generalize b.1=B at*
  have h:=round_half u1 c1 neg r
  dsimp only at h
  exact h
end Go.Ev

/- LexNumbers: the marks, drawn into a text. -/
namespace Go.Ev
open Go
variable {T : Tab} {st : St}
end Go.Ev

/- LexNumbers told, if Number and Word are the reference's. -/
namespace Go.Ev
open Go
variable {T : Tab} {st : St}
end Go.Ev

/- The plain law of numbers: the mark's decimals and the reference's. -/
namespace Go.Ev
open Go
theorem sgn_len1 (s:List UInt8):s.length≤(sgn s).2.length+1:=by
 cases s with
 | nil=>simp
 | cons c r=>
   simp only[sgn]
   split
   ·simp
   ·split <;> simp
theorem tail_len1 {α:Type} (l:List α):l.length≤l.tail.length+1:=by cases l <;> simp
theorem short_len {s:List UInt8} (h:decD s≠none):(shorten false true s).length≤12:=by
 have ht:decD (shorten false true s)≠none:=fun hn=>h ((decD_shorten s).1 hn)
 have q1:=sgn_shorten s
 obtain⟨a1,_,a3⟩:=spanD_shorten (sgn s).2
 generalize hT:shorten false true s=t at*
 have l1:=sgn_len1 t
 have l2:=spanD_len (sgn t).2
 have hs2:(sgn t).2=shorten false true (sgn s).2:=by rw[q1]
 rw[←hs2]at a1 a3
 have hR:(spanD (sgn t).2).2.length≤(decR t).length+2:=by
  unfold decR
  split
  ·rename_i hp
   have hp':oneB [46] (spanD (sgn s).2).2=true:=by
    rw[a1,(shorten_head _).2]at hp;exact hp
   have e:=shorten_tail hp'
   rw[a1,e]
   obtain⟨_,_,b3⟩:=spanD_shorten (spanD (sgn s).2).2.tail
   have l3:=spanD_len (shorten false true (spanD (sgn s).2).2.tail)
   have l4:=tail_len1 (shorten false true (spanD (sgn s).2).2)
   rw[e]at l4
   omega
  ·omega
 have hE:(decR t).length≤5:=by
  unfold decD at ht
  split at ht
  ·exact absurd rfl ht
  ·split at ht
   ·split at ht
    ·exact absurd rfl ht
    ·rename_i hb
     split at ht
     ·rename_i hz
      have l5:=tail_len1 (decR t)
      have l6:=sgn_len1 (decR t).tail
      have l7:=spanD_len (sgn (decR t).tail).2
      rw[hz]at l7
      simp only[List.length_nil]at l7
      omega
     ·exact absurd rfl ht
   ·split at ht
    ·rename_i hz;simp[hz]
    ·exact absurd rfl ht
 omega
theorem parseS_kind {t:List UInt8} (hl:t.length≤40):(decD t=none→(parseS t).2=5)∧(decD t≠none→(parseS t).2=0∨(parseS t).2=6):=by
 unfold parseS
 rw[if_neg (by omega)]
 cases decD t with
 | none=>simp
 | some q=>
   obtain⟨neg,l,pt⟩:=q
   refine⟨fun h=>(by cases h),fun _=> ?_⟩
   simp only
   split
   ·exact .inl rfl
   ·exact .inr rfl
theorem patS_eq (s:List UInt8):patS s=(decD s).isSome:=by
 unfold patS
 cases hd:decD s with
 | none=>
   have h0:=(decD_shorten s).2 hd
   by_cases hl:41<(shorten false true s).length
   ·simp[hl]
   ·have h:(parseS (shorten false true s)).2=5∨(parseS (shorten false true s)).2=3:=by
     by_cases h40:(shorten false true s).length≤40
     ·exact .inl ((parseS_kind h40).1 h0)
     ·unfold parseS;rw[if_pos (by omega)];exact .inr rfl
    rcases h with h | h <;> simp[h]
 | some p=>
   have hl:=short_len (s:=s) (by rw[hd];simp)
   have hn:decD (shorten false true s)≠none:=fun h=>by rw[(decD_shorten s).1 h]at hd;cases hd
   rcases(parseS_kind (by omega)).2 hn with h | h <;> simp[h] <;> omega
theorem parse_law (s:List UInt8):parseS s=parseR s:=by
 unfold parseS parseR
 split
 ·rfl
 ·rw[readR_D]
  cases hd:decD s with
  | none=>rfl
  | some p=>
    obtain⟨neg,l,pt⟩:=p
    have:=val_law (decD_facts hd).2.1 neg pt
    show (match valS neg l pt with | some v=>(v,(0:Int)) | none=>(0,6))=if -2147483648≤roundR neg l (pt - l.length)∧roundR neg l (pt - l.length)≤2147483648 then(roundR neg l (pt - l.length),0)else(0,6)
    rw[this]
    by_cases hP: -2147483648≤roundR neg l (pt - l.length)∧roundR neg l (pt - l.length)≤2147483648
    ·rw[if_pos hP,if_pos hP]
    ·rw[if_neg hP,if_neg hP]
theorem dec_law {s:List UInt8} (h:¬0≤cntR 10 (unsign s).1):(match readR s with
   | none=>((0,0,5):Tk)
   | some _=>if(parseR s).2≠0 then(0,0,26)else(2,(parseR s).1,0))=decT s:=by
 unfold decT
 rw[patS_eq,readR_D,parse_law]
 cases hd:decD s with
 | none=>simp
 | some p=>
   have ha:anyOf [46,101,69] s=true:=by
    cases ha:anyOf [46,101,69] s with
    | true=>rfl
    | false=>exact absurd (plain_int ha (by rw[hd];simp)) h
   simp[ha]
theorem num_law (s:List UInt8):numR s=numT s:=by
 unfold numT numR
 rw[whole_law,radix_law]
 by_cases h:0≤cntR 10 (unsign s).1
 ·simp only[if_pos h]
  rw[if_pos (ansT_not5 _ _)]
 ·have hd:=dec_law h
  simp only[if_neg h]
  cases tryR s 1 with
  | some n=>simp[ansT_not5]
  | none=>
    cases tryR s 2 with
    | some n=>simp[ansT_not5]
    | none=>exact hd.trans (by simp)
end Go.Ev

/- The abstract bodies of the functions, printed by a program of this work. -/
namespace Go.Ev.B
open Go
def chaseref03_Draft_Token_l0:MCode:=(.seq (.keep [1,2,3,4,5]) (.seq (.seq (.reg [p 37 (.mov 5),p 38 (.faddr 2 1),r 39 (.load none 38),p 40 (.lenOf true 39),p 41 (.bin .lss
 37 40),p 42 (.mov 41),pg 43 42 true (.mov 5),pg 44 42 true (.bin .lss 43 (.k (.int .i64 20))),p 45 (.pick 42 44 (.k (.bool false)))]) (.cond 45 .skip (.exit 1))) (.seq (.keep [1,
 2,3,4,5]) (.seq (.block 2 (.seq (.reg [p 48 (.faddr 2 1),r 49 (.load none 48),p 50 (.mov 5),p 51 (.idxS 49 50),w 52 (.call (.k (.fn 68 [] [])) [51])]) (.cond 52 (.reg [p 53 (.mov
 4),p 54 (.faddr 2 1),r 55 (.load none 54),p 56 (.mov 5),p 57 (.idxS 55 56),n 58 (.buildSl 5 1 [(.int .u8 0)] [(0,1,57)]),w 59 (.append 5 1 1 [(.int .u8 0)] 53 58),p 4 (.mov
 59)]) .skip))) (.seq (.keep [1,2,3,4,5]) (.reg [p 46 (.mov 5),p 47 (.bin .add 46 (.k (.int .i64 1))),p 5 (.mov 47)]))))))
def chaseref03_Draft_Token:MFun:=⟨1,[.cell 2 (some 3)],(.seq (.reg [n 1 (.box 205 true 0),n 2 (.alloc 134 true [(.int .i64 0),(.int .i64 0),(.str [])])]) (.seq (.reg [p 7 (.faddr
 0 1),r 8 (.load none 7),p 9 (.bin .rem 8 (.k (.int .u8 8))),p 10 (.conv .i64 9),p 11 (.bin .add (.k (.int .i64 1)) 10),p 3 (.mov 11)]) (.seq (.seq (.reg [p 12 (.mov 3)]) (.block
 0 (.seq (.seq (.reg [p 14 (.bin .eql 12 (.k (.int .i64 1))),p 13 (.mov 14)]) (.cond 13 .skip (.reg [p 15 (.bin .eql 12 (.k (.int .i64 2))),p 13 (.mov 15)]))) (.cond 13 (.seq (.reg
 [p 16 (.mov 3),p 17 (.faddr 1 1),r 18 (.load none 17),p 19 (.conv .i64 18),p 20 (.build [(.int .i64 0),(.int .i64 0),(.str [])] [(0,1,16),(1,1,19)]),w0 (.store 3 2 20)])
 .ret) (.seq (.reg [p 22 (.bin .eql 12 (.k (.int .i64 6))),p 21 (.mov 22)]) (.cond 21 (.seq (.reg [p 23 (.mov 3),p 24 (.faddr 2 1),r 25 (.load none 24),p 26 (.faddr 2 1),r 27 (.load
 none 26),p 28 (.lenOf true 27),p 29 (.minmax false [28,(.k (.int .i64 60))]),p 30 (.subS 25 none (some 29)),p 31 (.build [(.int .i64 0),(.int .i64 0),(.str [])] [(0,1,23),
 (2,1,30)]),w0 (.store 3 2 31)]) .ret) (.seq (.seq (.reg [p 33 (.bin .eql 12 (.k (.int .i64 7))),p 32 (.mov 33)]) (.cond 32 .skip (.reg [p 34 (.bin .eql 12 (.k (.int .i64 8))),p
 32 (.mov 34)]))) (.cond 32 (.seq (.reg [p 35 (.mov 3),p 36 (.build [(.int .i64 0),(.int .i64 0),(.str [])] [(0,1,35)]),w0 (.store 3 2 36)]) .ret) .skip)))))))) (.seq (.keep [1,
 2,3]) (.seq (.reg [p 4 (.mov (.k .nilslice))]) (.seq (.seq (.reg [p 5 (.mov (.k (.int .i64 0)))]) (.block 1 (.loop chaseref03_Draft_Token_l0))) (.seq (.keep [1,2,3,4]) (.seq (.reg
 [p 60 (.mov 3),p 61 (.mov 4),r 62 (.b2s 61),p 63 (.build [(.int .i64 0),(.int .i64 0),(.str [])] [(0,1,60),(2,1,62)]),n 6 (.alloc 134 true [(.int .i64 0),(.int .i64 0),
 (.str [])]),w0 (.store 3 6 63)]) (.seq (.seq (.reg [p 64 (.mov 3),p 65 (.bin .eql 64 (.k (.int .i64 3))),p 66 (.mov 65),rg 67 66 true (.load (some 3) 6),wg 68 66 true (.call (.k
 (.fn 129 [] [])) [67]),pg 69 66 true (.un .not 68),p 70 (.pick 66 69 (.k (.bool false)))]) (.cond 70 (.reg [n 71 (.buildSl 9 7 [(.str []),(.str []),(.str []),(.str []),(.str []),
 (.str []),(.str [])] [(0,1,(.k (.str [97]))),(1,1,(.k (.str [91]))),(2,1,(.k (.str [93]))),(3,1,(.k (.str [60,60]))),(4,1,(.k (.str [62,62]))),(5,1,(.k (.str [120,
 45,49]))),(6,1,(.k (.str [61])))]),p 72 (.faddr 0 1),r 73 (.load none 72),p 74 (.bin .quo 73 (.k (.int .u8 8))),p 75 (.bin .rem 74 (.k (.int .u8 7))),p 76 (.iaddrS 1 71 75),
 r 77 (.load none 76),p 78 (.faddr 2 6),w0 (.store 1 78 77)]) .skip)) (.seq (.keep [2,6]) (.seq (.reg [r 79 (.load (some 3) 6),w0 (.store 3 2 79)]) .ret)))))))))))⟩
def lex_Text:MFun:=⟨1,[.t 2,.t 3],(.seq (.reg [n 1 (.box 134 true 0),p 2 (.mov (.k (.str []))),p 3 (.mov (.k (.int .i64 0)))]) (.seq (.seq (.reg [r 5 (.load (some 3) 1),w
 6 (.call (.k (.fn 74 [] [])) [5]),p 4 (.mov 6)]) (.seq (.reg [p 7 (.mov 4),p 8 (.bin .neq 7 (.k (.int .i64 0)))]) (.cond 8 (.seq (.reg [p 9 (.mov 4),p 2 (.mov (.k (.str []))),p
 3 (.mov 9)]) .ret) .skip))) (.seq (.keep [1]) (.seq (.seq (.reg [p 10 (.faddr 0 1),r 11 (.load none 10)]) (.block 0 (.seq (.reg [p 13 (.bin .eql 11 (.k (.int .i64 1))),p 12 (.mov
 13)]) (.cond 12 (.seq (.reg [p 14 (.faddr 1 1),r 15 (.load none 14),w 16 (.call (.k (.fn 132 [] [])) [15]),p 2 (.mov 16),p 3 (.mov (.k (.int .i64 0)))]) .ret) (.seq (.reg [p 18
 (.bin .eql 11 (.k (.int .i64 2))),p 17 (.mov 18)]) (.cond 17 (.seq (.reg [p 19 (.faddr 1 1),r 20 (.load none 19),w 21 (.call (.k (.fn 133 [] [])) [20]),p 22 (.extr 0 21),p 23 (.extr
 1 21),p 2 (.mov 22),p 3 (.mov 23)]) .ret) (.seq (.reg [p 25 (.bin .eql 11 (.k (.int .i64 4))),p 24 (.mov 25)]) (.cond 24 (.seq (.reg [p 26 (.faddr 2 1),r 27 (.load none 26),p 28
 (.bin .add (.k (.str [47])) 27),p 2 (.mov 28),p 3 (.mov (.k (.int .i64 0)))]) .ret) (.seq (.reg [p 30 (.bin .eql 11 (.k (.int .i64 5))),p 29 (.mov 30)]) (.cond 29 (.seq (.reg [p
 31 (.faddr 2 1),r 32 (.load none 31),p 33 (.bin .add (.k (.str [47,47])) 32),p 2 (.mov 33),p 3 (.mov (.k (.int .i64 0)))]) .ret) (.seq (.reg [p 35 (.bin .eql 11 (.k (.int .i64
 6))),p 34 (.mov 35)]) (.cond 34 (.seq (.reg [p 36 (.faddr 2 1),r 37 (.load none 36),w 38 (.call (.k (.fn 71 [] [])) [37]),p 2 (.mov 38),p 3 (.mov (.k (.int .i64 0)))]) .ret) (.seq
 (.reg [p 40 (.bin .eql 11 (.k (.int .i64 7))),p 39 (.mov 40)]) (.cond 39 (.seq (.reg [p 2 (.mov (.k (.str [123]))),p 3 (.mov (.k (.int .i64 0)))]) .ret) (.seq (.reg [p 42 (.bin .eql
 11 (.k (.int .i64 8))),p 41 (.mov 42)]) (.cond 41 (.seq (.reg [p 2 (.mov (.k (.str [125]))),p 3 (.mov (.k (.int .i64 0)))]) .ret) .skip)))))))))))))))) (.seq (.keep [1]) (.seq (.reg
 [p 43 (.faddr 2 1),r 44 (.load none 43),p 2 (.mov 44),p 3 (.mov (.k (.int .i64 0)))]) .ret))))))⟩
def chaseref03_Right:MFun:=⟨1,[.t 2],(.seq (.reg [n 1 (.box 134 true 0),p 2 (.mov (.k (.bool false)))]) (.seq (.seq (.reg [p 5 (.faddr 0 1),r 6 (.load none 5),p 7 (.bin .neq
 6 (.k (.int .i64 1))),p 8 (.mov 7),pg 9 8 true (.faddr 0 1),rg 10 8 true (.load none 9),pg 11 8 true (.bin .neq 10 (.k (.int .i64 2))),p 12 (.pick 8 11 (.k (.bool false))),p 13
 (.mov 12),pg 14 13 true (.faddr 1 1),rg 15 13 true (.load none 14),pg 16 13 true (.bin .neq 15 (.k (.int .i64 0))),p 17 (.pick 13 16 (.k (.bool false)))]) (.seq (.keep [1,17])
 (.cond 17 (.seq (.reg [p 2 (.mov (.k (.bool false)))]) .ret) .skip))) (.seq (.keep [1]) (.seq (.seq (.reg [p 18 (.faddr 0 1),r 19 (.load none 18)]) (.block 0 (.seq (.reg [p 21 (.bin
 .eql 19 (.k (.int .i64 1))),p 20 (.mov 21)]) (.cond 20 (.seq (.reg [p 22 (.faddr 2 1),r 23 (.load none 22),p 24 (.bin .eql 23 (.k (.str []))),p 25 (.mov 24),pg 26 25 true (.faddr
 1 1),rg 27 25 true (.load none 26),pg 28 25 true (.bin .geq 27 (.k (.int .i64 (-2147483648)))),p 29 (.pick 25 28 (.k (.bool false))),p 30 (.mov 29),pg 31 30 true (.faddr 1 1),
 rg 32 30 true (.load none 31),pg 33 30 true (.bin .leq 32 (.k (.int .i64 2147483647))),p 34 (.pick 30 33 (.k (.bool false))),p 2 (.mov 34)]) .ret) (.seq (.reg [p 36 (.bin .eql 19
 (.k (.int .i64 2))),p 35 (.mov 36)]) (.cond 35 (.seq (.reg [p 37 (.faddr 2 1),r 38 (.load none 37),p 39 (.bin .eql 38 (.k (.str []))),p 40 (.mov 39),pg 41 40 true (.faddr 1 1),
 rg 42 40 true (.load none 41),wg 43 40 true (.call (.k (.fn 105 [] [])) [42]),p 44 (.pick 40 43 (.k (.bool false))),p 2 (.mov 44)]) .ret) (.seq (.reg [p 46 (.bin .eql 19 (.k (.int
 .i64 3))),p 45 (.mov 46)]) (.cond 45 (.seq (.seq (.reg [p 47 (.faddr 2 1),r 48 (.load none 47),p 49 (.bin .eql 48 (.k (.str [91]))),p 50 (.mov 49),pg 51 50 false (.faddr 2 1),
 rg 52 50 false (.load none 51),pg 53 50 false (.bin .eql 52 (.k (.str [93]))),p 54 (.pick 50 (.k (.bool true)) 53),p 55 (.mov 54),pg 56 55 false (.faddr 2 1),rg 57 55 false (.load
 none 56),pg 58 55 false (.bin .eql 57 (.k (.str [60,60]))),p 59 (.pick 55 (.k (.bool true)) 58),p 60 (.mov 59),pg 61 60 false (.faddr 2 1),rg 62 60 false (.load none 61),pg 63
 60 false (.bin .eql 62 (.k (.str [62,62]))),p 64 (.pick 60 (.k (.bool true)) 63)]) (.seq (.keep [1,64]) (.cond 64 (.seq (.reg [p 2 (.mov (.k (.bool true)))]) .ret) .skip))) (.seq
 (.keep [1]) (.seq (.reg [p 66 (.faddr 2 1),r 67 (.load none 66),w 68 (.call (.k (.fn 64 [] [])) [67]),p 65 (.mov 68),p 69 (.extr 0 65),p 70 (.extr 1 65),n 3 (.alloc 134 true [(.int
 .i64 0),(.int .i64 0),(.str [])]),w0 (.store 3 3 69),p 4 (.mov 70)]) (.seq (.keep [1,4]) (.seq (.reg [p 71 (.faddr 2 1),r 72 (.load none 71),p 73 (.bin .neq 72 (.k (.str []))),
 p 74 (.mov 73),pg 75 74 true (.faddr 2 1),rg 76 74 true (.load none 75),pg 77 74 true (.lenOf true 76),pg 78 74 true (.bin .leq 77 (.k (.int .i64 100))),p 79 (.pick 74 78 (.k (.bool
 false))),p 80 (.mov 79),pg 81 80 true (.faddr 2 1),rg 82 80 true (.load none 81),wg 83 80 true (.call (.k (.fn 83 [] [])) [82]),p 84 (.pick 80 83 (.k (.bool false))),p 85 (.mov
 84),pg 86 85 true (.mov 4),pg 87 85 true (.bin .eql 86 (.k (.int .i64 5))),p 88 (.pick 85 87 (.k (.bool false))),p 2 (.mov 88)]) .ret))))) (.seq (.seq (.reg [p 90 (.bin .eql 19
 (.k (.int .i64 4))),p 89 (.mov 90)]) (.cond 89 .skip (.reg [p 91 (.bin .eql 19 (.k (.int .i64 5))),p 89 (.mov 91)]))) (.cond 89 (.seq (.reg [p 92 (.faddr 2 1),r 93 (.load none 92),
 p 94 (.lenOf true 93),p 95 (.bin .leq 94 (.k (.int .i64 100))),p 96 (.mov 95),pg 97 96 true (.faddr 2 1),rg 98 96 true (.load none 97),wg 99 96 true (.call (.k (.fn 83 [] []))
 [98]),p 100 (.pick 96 99 (.k (.bool false))),p 2 (.mov 100)]) .ret) (.seq (.reg [p 102 (.bin .eql 19 (.k (.int .i64 6))),p 101 (.mov 102)]) (.cond 101 (.seq (.reg [p 103 (.faddr
 2 1),r 104 (.load none 103),p 105 (.lenOf true 104),p 106 (.bin .leq 105 (.k (.int .i64 1000))),p 2 (.mov 106)]) .ret) (.seq (.seq (.reg [p 108 (.bin .eql 19 (.k (.int .i64 7))),
 p 107 (.mov 108)]) (.cond 107 .skip (.reg [p 109 (.bin .eql 19 (.k (.int .i64 8))),p 107 (.mov 109)]))) (.cond 107 (.seq (.reg [p 110 (.faddr 2 1),r 111 (.load none 110),p 112 (.bin
 .eql 111 (.k (.str []))),p 2 (.mov 112)]) .ret) .skip)))))))))))))) (.seq (.keep []) (.seq (.reg [p 2 (.mov (.k (.bool false)))]) .ret))))))⟩
def real_Print:MFun:=⟨1,[.t 2,.t 3],(.seq (.reg [n 1 (.box 3 true 0),p 2 (.mov (.k (.str []))),p 3 (.mov (.k (.int .i64 0)))]) (.seq (.reg [p 4 (.mkfn 136 [] [1]),r 5 (.load
 none 1),n 6 (.buildSl 3 1 [(.int .i64 0)] [(0,1,5)]),w 7 (.call (.k (.fn 137 [] [])) [4,6]),p 8 (.extr 0 7),p 9 (.extr 1 7),p 2 (.mov 8),p 3 (.mov 9)]) .ret))⟩
def real_Print_1_l0:MCode:=(.block 1 (.reg [p 19 (.mov 6),w 20 (.call (.k (.fn 91 [] [])) [4,19])]))
def real_Print_1_l1:MCode:=(.seq (.keep [4,7,8]) (.seq (.seq (.reg [p 24 (.mov 7),p 25 (.bin .gtr 24 (.k (.int .i64 0))),p 26 (.mov 25),pg 27 26 false (.mov 8),p 28 (.pick
 26 (.k (.bool true)) 27)]) (.cond 28 .skip (.exit 2))) (.seq (.block 3 (.seq (.reg [p 29 (.mov 7),p 30 (.bin .mul 29 (.k (.int .i64 10))),p 7 (.mov 30)]) (.seq (.reg [p 31 (.mov 7),
 p 32 (.bin .quo 31 (.k (.int .i64 65536))),p 33 (.conv .u8 32),p 34 (.bin .add (.k (.int .u8 48)) 33),w 35 (.call (.k (.fn 91 [] [])) [4,34])]) (.reg [p 36 (.mov 7),p 37 (.bin
 .rem 36 (.k (.int .i64 65536))),p 7 (.mov 37)])))) (.seq (.keep [4,7]) (.reg [p 8 (.mov (.k (.bool false)))])))))
def real_Print_1:MFun:=⟨1,[.t 1,.t 2,.t 3],(.seq (.reg [p 1 (.mov (.k (.str []))),p 2 (.mov (.k (.int .i64 0))),p 3 (.mov (.k (.int .i64 0)))]) (.seq (.reg [n 4 (.alloc 84
 false [.nilptr,.nilslice])]) (.seq (.reg [r 9 (.load none 0),p 5 (.mov 9)]) (.seq (.seq (.reg [p 10 (.mov 5),p 11 (.bin .lss 10 (.k (.int .i64 0)))]) (.cond 11 (.seq (.reg [w 12
 (.call (.k (.fn 91 [] [])) [4,(.k (.int .u8 45))])]) (.reg [p 13 (.mov 5),p 14 (.un .neg 13),p 5 (.mov 14)])) .skip)) (.seq (.seq (.reg [p 15 (.mov 5),p 16 (.bin .quo 15 (.k (.int
 .i64 65536))),w 17 (.call (.k (.fn 138 [] [])) [16])]) (.block 0 (.rangeFunc 17 [18] (.reg [p 6 (.mov 18)]) real_Print_1_l0))) (.seq (.keep [4,5]) (.seq (.reg [w 21 (.call (.k (.fn
 91 [] [])) [4,(.k (.int .u8 46))])]) (.seq (.seq (.reg [p 22 (.mov 5),p 23 (.bin .rem 22 (.k (.int .i64 65536))),p 7 (.mov 23),p 8 (.mov (.k (.bool true)))]) (.block 2 (.loop real_Print_1_l1)))
 (.seq (.keep [4]) (.seq (.reg [w 38 (.call (.k (.fn 92 [] [])) [4]),p 1 (.mov 38),p 2 (.mov (.k (.int .i64 0))),p 3 (.mov (.k (.int .i64 0)))]) .ret))))))))))⟩
def real_result_string_l0:MCode:=(.seq (.keep [0,4,10,11,12]) (.seq (.reg [p 13 (.bin .lss 12 11)]) (.seq (.cond 13 .skip (.exit 0)) (.seq (.block 1 (.seq (.reg [p 14 (.iaddrS
 1 10 12),r 15 (.load none 14),p 7 (.mov 15)]) (.seq (.reg [p 16 (.mov 7),w 17 (.call (.k (.fn 110 [] [])) [16]),p 18 (.un .not 17)]) (.cond 18 (.seq (.reg [p 19 (.mov 4),p 4 (.mov
 19),p 5 (.mov (.k (.int .i64 2)))]) .ret) .skip)))) (.seq (.keep [0,4,10,11,12]) (.reg [p 20 (.bin .add 12 (.k (.int .i64 1))),p 12 (.mov 20)]))))))
def real_result_string:MFun:=⟨2,[.t 4,.t 5],(.seq (.reg [p 4 (.mov (.k (.str []))),p 5 (.mov (.k (.int .i64 0)))]) (.seq (.seq (.reg [p 10 (.mov 1),p 11 (.lenOf false 10),
 p 12 (.mov (.k (.int .i64 0)))]) (.block 0 (.loop real_result_string_l0))) (.seq (.keep [0,4]) (.seq (.reg [p 22 (.mov 0),w 23 (.call 22 []),p 21 (.mov 23),p 24 (.extr 0 21),p
 25 (.extr 1 21),p 26 (.extr 2 21),p 8 (.mov 24),p 9 (.mov 25),p 5 (.mov 26)]) (.seq (.keep [4,5,8,9]) (.seq (.seq (.reg [p 27 (.mov 5),p 28 (.bin .eql 27 (.k (.int .i64 0))),
 p 29 (.mov 28),pg 30 29 true (.mov 9),wg 31 29 true (.call (.k (.fn 110 [] [])) [30]),pg 32 29 true (.un .not 31),p 33 (.pick 29 32 (.k (.bool false)))]) (.cond 33 (.reg [p 5 (.mov
 (.k (.int .i64 25)))]) .skip)) (.seq (.keep [4,5,8]) (.seq (.seq (.reg [p 34 (.mov 5),p 35 (.bin .neq 34 (.k (.int .i64 0)))]) (.cond 35 (.seq (.reg [p 36 (.mov 4),p 37 (.mov 5),
 p 4 (.mov 36),p 5 (.mov 37)]) .ret) .skip)) (.seq (.reg [p 38 (.mov 8),p 4 (.mov 38),p 5 (.mov (.k (.int .i64 0)))]) .ret)))))))))⟩
def real_whole:MFun:=⟨1,[.t 2],(.seq (.reg [n 1 (.box 3 false 0),p 2 (.mov (.k .nilfn))]) (.seq (.reg [p 3 (.mkfn 139 [] [1]),p 2 (.mov 3)]) .ret))⟩
def real_whole_1_l0:MCode:=(.seq (.keep [0,1,3]) (.seq (.seq (.reg [r 4 (.load none 1),p 5 (.mov 3),p 6 (.bin .quo 4 5),p 7 (.bin .geq 6 (.k (.int .i64 10)))]) (.cond 7 .skip
 (.exit 0))) (.block 1 (.reg [p 8 (.mov 3),p 9 (.bin .mul 8 (.k (.int .i64 10))),p 3 (.mov 9)]))))
def real_whole_1_l1:MCode:=(.seq (.keep [0,1,3]) (.seq (.seq (.reg [p 10 (.mov 3),p 11 (.bin .gtr 10 (.k (.int .i64 0)))]) (.cond 11 .skip (.exit 2))) (.seq (.block 3 (.seq (.reg
 [p 14 (.mov 0),r 15 (.load none 1),p 16 (.mov 3),p 17 (.bin .quo 15 16),p 18 (.bin .rem 17 (.k (.int .i64 10))),p 19 (.conv .u8 18),p 20 (.bin .add (.k (.int .u8 48)) 19),w 21
 (.call 14 [20]),p 22 (.un .not 21)]) (.cond 22 .ret .skip))) (.seq (.keep [0,1,3]) (.reg [p 12 (.mov 3),p 13 (.bin .quo 12 (.k (.int .i64 10))),p 3 (.mov 13)])))))
def real_whole_1:MFun:=⟨2,[],(.seq (.reg [p 3 (.mov (.k (.int .i64 1)))]) (.seq (.block 0 (.loop real_whole_1_l0)) (.seq (.keep [0,1,3]) (.block 2 (.loop real_whole_1_l1)))))⟩
structure H_strconv_Itoa (T:Tab):Prop where
 en:T.en 132=some E_strconv_Itoa
structure H_real_whole_1 (T:Tab):Prop where
 e:T.en 139=none
 f:T.fn 139=some real_whole_1
structure H_real_result_string (T:Tab):Prop where
 e:T.en 137=none
 f:T.fn 137=some real_result_string
 real_Is:H_real_Is T
structure H_real_whole (T:Tab):Prop where
 e:T.en 138=none
 f:T.fn 138=some real_whole
 real_whole_1:H_real_whole_1 T
structure H_real_Print_1 (T:Tab):Prop where
 e:T.en 136=none
 f:T.fn 136=some real_Print_1
 strings_Builder_WriteByte:H_strings_Builder_WriteByte T
 real_whole:H_real_whole T
 strings_Builder_String:H_strings_Builder_String T
structure H_chaseref03_Right (T:Tab):Prop where
 e:T.en 129=none
 f:T.fn 129=some chaseref03_Right
 chaseref01_Is:H_chaseref01_Is T
 chaseref03_Number:H_chaseref03_Number T
 chaseref03_All:H_chaseref03_All T
structure H_real_Print (T:Tab):Prop where
 e:T.en 133=none
 f:T.fn 133=some real_Print
 real_Print_1:H_real_Print_1 T
 real_result_string:H_real_result_string T
structure H_chaseref03_Draft_Token (T:Tab):Prop where
 e:T.en 127=none
 f:T.fn 127=some chaseref03_Draft_Token
 chaseref03_Regular:H_chaseref03_Regular T
 chaseref03_Right:H_chaseref03_Right T
structure H_lex_Text (T:Tab):Prop where
 e:T.en 128=none
 f:T.fn 128=some lex_Text
 lex_Check:H_lex_Check T
 strconv_Itoa:H_strconv_Itoa T
 real_Print:H_real_Print T
 lex_Quote:H_lex_Quote T
end Go.Ev.B

/- The reference's valid tokens. -/
namespace Go.Ev
open Go
variable {T : Tab} {st : St}
theorem right_not {k n:Int} {t:List UInt8} (h1:k≠1) (h2:k≠2) (hn:n≠0):rightT k n t=false:=by
 unfold rightT
 rw[if_neg h1,if_neg h2]
 split
 ·simp[markT,hn]
 ·split <;> simp[hn]
theorem refRight_tells (H:B.H_chaseref03_Right T) (hwf:st.Wf) {k n:Int} {t:List UInt8} (hs:t.length<1000000000000):Tells T st (.fn 129 [] []) [.agg [.int .i64 k,.int .i64 n,.str t]] (.bool (rightT k n t)):=by
 refine tells_of H.e H.f rfl ?_
 have hx:=Ext.new hwf (.cells 134 true [.int .i64 k,.int .i64 n,.str t])
 have g:hget ((st.nx,AObj.cells 134 true [.int .i64 k,.int .i64 n,.str t])::st.h) st.nx=some (.cells 134 true [.int .i64 k,.int .i64 n,.str t]):=by simp[hget_cons]
 by_cases h1:k=1
 ·subst h1
  by_cases ht:t=[]
  ·subst ht
   by_cases a1: -2147483648≤n
   ·simp[B.chaseref03_Right,go_sem,NO.run,WO.run,RO.run,rdCell,hget_cons,a1,rightT,seq8_eq,hx]
   ·simp[B.chaseref03_Right,go_sem,NO.run,WO.run,RO.run,rdCell,hget_cons,a1,rightT,seq8_eq,hx]
  ·have hq:t.isEmpty=false:=by cases t with | nil=>exact absurd rfl ht | cons=>rfl
   simp[B.chaseref03_Right,go_sem,NO.run,WO.run,RO.run,rdCell,hget_cons,rightT,seq8_eq,hq,ht,hx]
 by_cases h2:k=2
 ·subst h2
  by_cases ht:t=[]
  ·subst ht
   simp[B.chaseref03_Right,go_sem,NO.run,WO.run,RO.run,rdCell,hget_cons,seq8_eq]
   refine(is105_tells H.chaseref01_Is hx.wf).use fun s1 hs1=> ?_
   simp[go_sem,rightT,hx.trans hs1]
  ·have hq:t.isEmpty=false:=by cases t with | nil=>exact absurd rfl ht | cons=>rfl
   simp[B.chaseref03_Right,go_sem,NO.run,WO.run,RO.run,rdCell,hget_cons,rightT,seq8_eq,hq,ht,hx]
 by_cases hn:n=0
 rotate_left
 ·rw[right_not h1 h2 hn]
  simp[B.chaseref03_Right,go_sem,NO.run,WO.run,RO.run,rdCell,hget_cons,h1,h2,hn,hx]
 subst hn
 by_cases h3:k=3
 ·subst h3
  by_cases m0:t=[91]
  ·subst m0
   simp[B.chaseref03_Right,go_sem,NO.run,WO.run,RO.run,rdCell,hget_cons,rightT,markT,seq8_eq,hx]
  by_cases m1:t=[93]
  ·subst m1
   simp[B.chaseref03_Right,go_sem,NO.run,WO.run,RO.run,rdCell,hget_cons,rightT,markT,seq8_eq,hx]
  by_cases m2:t=[60,60]
  ·subst m2
   simp[B.chaseref03_Right,go_sem,NO.run,WO.run,RO.run,rdCell,hget_cons,rightT,markT,seq8_eq,hx]
  by_cases m3:t=[62,62]
  ·subst m3
   simp[B.chaseref03_Right,go_sem,NO.run,WO.run,RO.run,rdCell,hget_cons,rightT,markT,seq8_eq,hx]
  have hr:rightT 3 0 t=namedT 3 t:=by simp[rightT,markT,m0,m1,m2,m3]
  rw[hr]
  have q0:(t == [91])=false:=by simp[m0]
  have q1:(t == [93])=false:=by simp[m1]
  have q2:(t == [60,60])=false:=by simp[m2]
  have q3:(t == [62,62])=false:=by simp[m3]
  simp[B.chaseref03_Right,go_sem,NO.run,WO.run,RO.run,rdCell,hget_cons,seq8_eq,q0,q1,q2,q3]
  refine(refNumber_tells H.chaseref03_Number hx.wf hs).use fun s1 hs1=> ?_
  have e1:=hx.trans hs1
  have g1:=hs1.get hx.wf g
  rw[num_law]
  have hnm:namedT 3 t=(decide (t.length≤100) && regAll t && (!(t == []) && decide ((numT t).2.2=5))):=by simp[namedT]
  rw[hnm]
  generalize numT t=u
  have x3:=e1.trans (Ext.new e1.wf (.cells 134 true [.int .i64 u.1,.int .i64 u.2.1,.str []]))
  have hne:¬s1.nx=st.nx:=by have:=e1.wf.lt _ _ g1;omega
  have g2:hget ((s1.nx,AObj.cells 134 true [.int .i64 u.1,.int .i64 u.2.1,.str []])::s1.h) st.nx=some (.cells 134 true [.int .i64 3,.int .i64 0,.str t]):=by
   simp[hget_cons,Ne.symm hne,hne,g1]
  by_cases ht:t=[]
  ·subst ht
   simp[go_sem,toA,tokA,tokC,NO.run,WO.run,RO.run,wr_tok,rdCell,hget_cons,hne,g1,seq8_eq,x3]
  have hq:t.isEmpty=false:=by cases t with | nil=>exact absurd rfl ht | cons=>rfl
  by_cases hl:t.length≤100
  ·simp[go_sem,toA,tokA,tokC,NO.run,WO.run,RO.run,wr_tok,rdCell,hget_cons,hne,g1,seq8_eq,hq,show (t.length:Int)≤100 by omega]
   refine(refAll_tells H.chaseref03_All x3.wf (s:=t) (by omega)).use fun s2 hs2=> ?_
   have e2:=x3.trans hs2
   cases hra:regAll t <;> simp[go_sem,hra,hl,e2]
  ·simp[go_sem,toA,tokA,tokC,NO.run,WO.run,RO.run,wr_tok,rdCell,hget_cons,hne,g1,seq8_eq,hq,hl,show¬(t.length:Int)≤100 by omega,x3]
 have hk45:k=4∨k=5→rightT k 0 t=(decide (t.length≤100) && regAll t):=by
  rintro(rfl | rfl) <;> simp[rightT,markT,namedT]
 by_cases h4:k=4
 ·rw[hk45 (.inl h4)]
  subst h4
  by_cases hl:t.length≤100
  ·simp[B.chaseref03_Right,go_sem,NO.run,WO.run,RO.run,rdCell,hget_cons,seq8_eq,hl,show (t.length:Int)≤100 by omega]
   refine(refAll_tells H.chaseref03_All hx.wf (s:=t) (by omega)).use fun s2 hs2=> ?_
   simp[go_sem,hx.trans hs2]
  ·simp[B.chaseref03_Right,go_sem,NO.run,WO.run,RO.run,rdCell,hget_cons,seq8_eq,hl,show¬(t.length:Int)≤100 by omega,hx]
 by_cases h5:k=5
 ·rw[hk45 (.inr h5)]
  subst h5
  by_cases hl:t.length≤100
  ·simp[B.chaseref03_Right,go_sem,NO.run,WO.run,RO.run,rdCell,hget_cons,seq8_eq,hl,show (t.length:Int)≤100 by omega]
   refine(refAll_tells H.chaseref03_All hx.wf (s:=t) (by omega)).use fun s2 hs2=> ?_
   simp[go_sem,hx.trans hs2]
  ·simp[B.chaseref03_Right,go_sem,NO.run,WO.run,RO.run,rdCell,hget_cons,seq8_eq,hl,show¬(t.length:Int)≤100 by omega,hx]
 by_cases h6:k=6
 ·subst h6
  simp[B.chaseref03_Right,go_sem,NO.run,WO.run,RO.run,rdCell,hget_cons,rightT,hx]
  omega
 by_cases h7:k=7
 ·subst h7
  simp[B.chaseref03_Right,go_sem,NO.run,WO.run,RO.run,rdCell,hget_cons,rightT,seq8_eq,hx]
 by_cases h8:k=8
 ·subst h8
  simp[B.chaseref03_Right,go_sem,NO.run,WO.run,RO.run,rdCell,hget_cons,rightT,seq8_eq,hx]
 simp[B.chaseref03_Right,go_sem,NO.run,WO.run,RO.run,rdCell,hget_cons,rightT,h1,h2,h3,h4,h5,h6,h7,h8,hx]
end Go.Ev

/- The reference's decimal text of an int. -/
namespace Go.Ev
open Go
variable {T : Tab} {st : St}
theorem hget_of_mem:∀{h:Heap} {n:Nat},n∈h.map (·.1)→∃o,hget h n=some o
 | [],_,hm=>by simp at hm
 | (m,o)::h,n,hm=>by
   by_cases e:m=n
   ·exact⟨o,by simp[hget,e]⟩
   ·simp only[List.map_cons,List.mem_cons]at hm
    rcases hm with h1 | h1
    ·exact absurd h1.symm e
    ·obtain⟨p,hp⟩:=hget_of_mem h1
     exact⟨p,by simp[hget,e,hp]⟩
theorem Ext.put (hwf:st.Wf) {k n:Nat} {s:St} (x:Ext ⟨st.h,st.nx+k⟩ s) (h1:st.nx≤n) (h2:n<st.nx+k) (o:AObj):Ext st ⟨(n,o)::s.h,s.nx⟩:=by
 have hno:hget s.h n=none:=by
  rw[x.keep n h2]
  cases hg:hget st.h n with
  | none=>rfl
  | some p=>have:=hwf.lt n p hg;omega
 have hnx:=x.nx
 refine⟨by simp only at hnx⊢;omega,⟨fun m p hm=> ?_,?_⟩,fun m hm=> ?_⟩
 ·simp only[hget]at hm
  split at hm
  ·rename_i e;subst e;simp only at hnx⊢;omega
  ·exact x.wf.lt m p hm
 ·simp only[List.map_cons,List.nodup_cons]
  refine⟨fun hm=> ?_,x.wf.nd⟩
  obtain⟨p,hp⟩:=hget_of_mem hm
  rw[hno]at hp;cases hp
 ·simp only[hget]
  rw[if_neg (by omega),x.keep m (by simp only;omega)]
theorem decDigits_small {u:Nat} (h:u<10):Lib.decDigits u=[UInt8.ofNat (48+u)]:=by rw[Lib.decDigits,dif_pos h]
theorem decDigits_big {u:Nat} (h:¬u<10):Lib.decDigits u=Lib.decDigits (u / 10)++[UInt8.ofNat (48+u % 10)]:=by rw[Lib.decDigits,dif_neg h]
theorem decDigits_len:∀(k u:Nat),u<10 ^ (k+1)→1≤(Lib.decDigits u).length∧(Lib.decDigits u).length≤k+1
 | 0,u,h=>by rw[decDigits_small (by simpa using h)];simp
 | k+1,u,h=>by
   by_cases h10:u<10
   ·rw[decDigits_small h10];simp
   ·have:=decDigits_len k (u / 10) (by rw[Nat.pow_succ]at h;omega)
    rw[decDigits_big h10,List.length_append,List.length_singleton]
    omega
theorem decDigits_len10 {u:Nat} (h:u≤4294967296):1≤(Lib.decDigits u).length∧(Lib.decDigits u).length≤10:=decDigits_len 9 u (by omega)
theorem digW {d:Nat} (h:d<10):IntKind.u8.wrap (48+(d:Int))=((UInt8.ofNat (48+d)).toNat:Int)∧IntKind.i64.wrap (48+(d:Int))=48+d:=by
 constructor
 ·have:d=0∨d=1∨d=2∨d=3∨d=4∨d=5∨d=6∨d=7∨d=8∨d=9:=by omega
  rcases this with rfl | rfl | rfl | rfl | rfl | rfl | rfl | rfl | rfl | rfl <;> rfl
 ·exact wrap64' (by omega) (by omega)
end Go.Ev

/- Reals as decimals: what both Prints answer; the reference's Print. -/
namespace Go.Ev
open Go
variable {T : Tab} {st : St}
def fracS:Nat→Nat→List UInt8
 | 0,_=>[]
 | k+1,f=>UInt8.ofNat (48+f*10 / 65536)::(if f*10 % 65536=0 then []else fracS k (f*10 % 65536))
def printS (n:Int):List UInt8:=(if n<0 then [45]else [])++(Lib.decDigits (n.natAbs / 65536)++(46::fracS 17 (n.natAbs % 65536)))
theorem fracS_len:∀k f,(fracS k f).length≤k
 | 0,_=>by simp[fracS]
 | k+1,f=>by
   have:=fracS_len k (f*10 % 65536)
   simp only[fracS,List.length_cons]
   split <;> simp <;> omega
theorem frac_dvd {k f:Nat} (hk:1≤k) (hk2:k≤16) (hd:2 ^ (17 - (k+1)) ∣ f):2 ^ (17 - k) ∣ f*10 % 65536:=by
 obtain⟨m,hm⟩:=hd
 have e1:(2:Nat) ^ (17 - k)=2 ^ (17 - (k+1))*2:=by rw[←Nat.pow_succ];congr 1;omega
 have h1:2 ^ (17 - k) ∣ f*10:=⟨m*5,by rw[e1,hm];rw[Nat.mul_assoc,Nat.mul_assoc,←Nat.mul_assoc 2 m 5,Nat.mul_comm 2 m,Nat.mul_assoc m 2 5]⟩
 have h2:2 ^ (17 - k) ∣ 65536:=⟨2 ^ (k - 1),by rw[←Nat.pow_add,show 17 - k+(k - 1)=16 by omega]⟩
 exact(Nat.dvd_mod_iff h2).2 h1
theorem frac_nums {f:Nat} (hf:f<65536):IntKind.i64.wrap ((f:Int)*10)=((f*10:Nat):Int)∧((f*10:Nat):Int).tdiv 65536=((f*10 / 65536:Nat):Int)∧((f*10:Nat):Int).tmod 65536=((f*10 % 65536:Nat):Int)∧
  IntKind.i64.wrap ((f*10 / 65536:Nat):Int)=((f*10 / 65536:Nat):Int)∧f*10 / 65536<10∧f*10 % 65536<65536:=by
 refine⟨by rw[wrap64' (by omega) (by omega)];omega,?_,?_,wrap64' (by omega) (by omega),by omega,by omega⟩
 ·rw[Int.tdiv_eq_ediv_of_nonneg (by omega)];omega
 ·rw[Int.tmod_eq_emod_of_nonneg (by omega)];omega
theorem printS_pos {u:Nat}:printS (u:Int)=Lib.decDigits (u / 65536)++(46::fracS 17 (u % 65536)):=by
 unfold printS;rw[if_neg (by omega)];simp
theorem printS_neg {u:Nat} (h:0<u):printS (-(u:Int))=45::(Lib.decDigits (u / 65536)++(46::fracS 17 (u % 65536))):=by
 unfold printS;rw[if_pos (by omega)];simp
theorem div65536 (u:Nat):(u:Int).tdiv 65536=((u / 65536:Nat):Int)∧(u:Int).tmod 65536=((u % 65536:Nat):Int):=by
 refine⟨?_,?_⟩
 ·rw[Int.tdiv_eq_ediv_of_nonneg (by omega)];omega
 ·rw[Int.tmod_eq_emod_of_nonneg (by omega)];omega
end Go.Ev

/- The canonical texts: the reference's Text. -/
namespace Go.Ev
open Go
variable {T : Tab} {st : St}
def textS (k n:Int) (t:List UInt8):List UInt8:=
 if k=1 then Lib.itoa n else if k=2 then printS n else if k=4 then 47::t else if k=5 then 47::47::t else if k=6 then quoteS t else if k=7 then [123]else if k=8 then [125]else t
theorem right_bound {k n:Int} {t:List UInt8} (h:rightT k n t=true):k=1∨k=2→-4294967296≤n∧n≤4294967296:=by
 rintro(rfl | rfl)
 ·simp[rightT]at h;omega
 ·simp[rightT]at h;omega
end Go.Ev

/- real.Print: the digits ahead of the point are yielded one by one. -/
namespace Go.Ev
open Go
variable {T : Tab} {st : St}
theorem writeByte_frm (H:B.H_strings_Builder_WriteByte T) {st0:St} (hx:Ext st0 st) {q:Nat} {l:List UInt8} (c:UInt8) {n:Int} (hn:n=(c.toNat:Int)) (b:Bd st0 st q l) (hl:l.length<35184372088831):
  CRes (call T (.fn 91 [] []) [.ptr q 0,.int .u8 n] st) fun _ s'=>(Ext st0 s'∧Bd st0 s' q (l++[c]))∧∀m o,m≠q→hget st.h m=some o→(∀ty,o≠.cells ty false (u8s l))→o≠.buf 5 1 (u8s l)→hget s'.h m=some o:=by
 subst hn
 obtain⟨h1,a,v,h2,h3,h4,h5⟩:=b
 refine call_res H.e H.f rfl ?_
 simp[B.strings_Builder_WriteByte,go_sem]
 refine(copyCheck_res H.strings_Builder_copyCheck hx.wf h2 h3).mono ?_
 rintro _ s1 ⟨f1,g1⟩
 have x1:Ext st0 s1:=hx.frm f1 (by simpa using h1)
 have g4:=h4.frm f1 hx.wf (by intro n hn h;simp at h;subst h;exact h5 hn)
 have hr:rdCell s1.h q 1=some v:=by simp[rdCell,g1]
 simp[go_sem,RO.run,NO.run,hr,reps]
 refine(g4.push x1.nx x1.wf (k:=1) (by omega) (c:=c) hl).mono ?_
 rintro v2 s2 ⟨o2,f2⟩
 have x2:=x1.frm f2 h4.ge
 have g2:hget s2.h q=some (.cells 84 false [.ptr q 0,v]):=f2.get x1.wf g1 h5
 have hw2:wrCells s2.h q 1 [v2]=some (hset s2.h q (.cells 84 false [.ptr q 0,v2])):=wr_cells g2 o2.sc (by simp)
 have f3:=Frm.set x2.wf g2 (o:= .cells 84 false [.ptr q 0,v2])
 have hap:=o2.apart g2 (x:= .ptr q 0) (by simp) (by simp)
 have g3:=hget_hset_self (o:= .cells 84 false [.ptr q 0,v2]) g2
 simp[go_sem,WO.run,o2.acells,hw2]
 have x3:Ext st0 ⟨hset s2.h q (.cells 84 false [.ptr q 0,v2]),s2.nx⟩:=x2.frm f3 (by simpa using h1)
 have o3:Grow st0 ⟨hset s2.h q (.cells 84 false [.ptr q 0,v2]),s2.nx⟩ v2 (l++[c]):=o2.frm f3 x2.wf (by intro n hn h;simp at h;subst h;exact hap hn)
 have x4:Ext st0 ⟨Go.Ev.dropLoc st.nx (hset s2.h q (.cells 84 false [.ptr q 0,v2])),s2.nx⟩:=x3.dropGe hx.nx
 refine⟨⟨x4,h1,_,v2,hget_dropLoc_keep x3.wf g3 rfl,.inr rfl,o3.dropLoc x3.wf,hap⟩,?_⟩
 intro m o hmq ho hc hb
 have hm:m∉v.nms:=by
  intro hm
  rcases h4.nms hm with ⟨ty,k⟩ | k
  ·rw[ho]at k;cases k;exact hc ty rfl
  ·rw[ho]at k;cases k;exact hb rfl
 have k1:=f1.get hx.wf ho (by simpa using hmq)
 have k2:=f2.get x1.wf k1 hm
 have k3:=f3.get (st:=⟨_,_⟩) x2.wf k2 (by simpa using hmq)
 show hget (Go.Ev.dropLoc st.nx _) m=_
 rw[hget_dropLoc_lt (hx.wf.lt m o ho)]
 exact k3
theorem whole_call (H:B.H_real_whole T) (hwf:st.Wf) {n:Int} {Q:AV→St→Prop}
  (h:Q (.fn 139 [] [.ptr st.nx 0]) ⟨(st.nx,.cells 3 false [.int .i64 n])::st.h,st.nx+1⟩):
  CRes (call T (.fn 138 [] []) [.int .i64 n] st) Q:=by
 refine call_res H.e H.f rfl ?_
 have hd:dropLoc st.nx ((st.nx,AObj.cells 3 false [.int .i64 n])::st.h)=(st.nx,AObj.cells 3 false [.int .i64 n])::st.h:=by
  have:locNames st.nx ((st.nx,AObj.cells 3 false [.int .i64 n])::st.h)=[]:=by
   simp only[locNames]
   exact locNames_nil fun n o ho=>hwf.lt n o ho
  rw[dropLoc_eq,this,hdrop_nil]
 simp[B.real_whole,go_sem,NO.run,AV.nb,hd]
 exact h
def digsF (n:Nat):Nat→List UInt8
 | 0=>[UInt8.ofNat (48+n % 10)]
 | k+1=>UInt8.ofNat (48+n / 10 ^ (k+1) % 10)::digsF n k
theorem digsF_last (n:Nat):∀k,digsF n (k+1)=digsF (n / 10) k++[UInt8.ofNat (48+n % 10)]
 | 0=>by simp[digsF]
 | k+1=>by
   have:=digsF_last n k
   rw[digsF,this,digsF,Nat.div_div_eq_div_mul,←Nat.pow_succ']
   rfl
theorem digsF_dec:∀(k n:Nat),n<10 ^ (k+1)→(k=0∨10 ^ k≤n)→digsF n k=Lib.decDigits n
 | 0,n,h,_=>by rw[decDigits_small (by simpa using h),digsF,Nat.mod_eq_of_lt (by simpa using h)]
 | k+1,n,h,hk=>by
   have h1:10 ^ (k+1)≤n:=by rcases hk with hk | hk;cases hk;exact hk
   have h2:1≤10 ^ k:=Nat.pow_pos (by omega)
   rw[Nat.pow_succ]at h h1
   rw[digsF_last,decDigits_big (by omega),digsF_dec k (n / 10) (by rw[Nat.pow_succ]at h⊢;omega) (.inr (by omega))]
theorem whole_l0 {n m:Nat} (hn:n≤65536) (hg:hget st.h m=some (.cells 3 false [.int .i64 (n:Int)])) {y:AV}:∀(f j:Nat) (e:Env),j+f=5→(j=0∨10 ^ j≤n)→eget e 0=y→eget e 1= .ptr m 0→eget e 3= .int .i64 ((10 ^ j:Nat):Int)→
  Res (run T (.loop B.real_whole_1_l0) e st) fun x e' s'=>x= .exit 0∧s'=st∧eget e' 0=y∧eget e' 1= .ptr m 0∧∃k,k≤5∧eget e' 3= .int .i64 ((10 ^ k:Nat):Int)∧n<10 ^ (k+1)∧(k=0∨10 ^ k≤n):=by
 intro f
 induction f with
 | zero=>
   intro j e hj hjn g0 g1 g3
   have hj5:j=5:=by omega
   subst hj5
   exfalso
   omega
 | succ f ih=>
   intro j e hj hjn g0 g1 g3
   rw[run_loop]
   have hp:10 ^ (j+1)=10 ^ j*10:=Nat.pow_succ ..
   have hp1:1≤10 ^ j:=Nat.pow_pos (by omega)
   have hp2:10 ^ j≤10 ^ 4:=Nat.pow_le_pow_right (by omega) (by omega)
   have hnext:=ih (j+1)
   have hthis:∀k,k=j→(k=0∨10 ^ k≤n):=fun k h=>h▸hjn
   rw[hp]at hnext
   have hend:n<10 ^ j*10→∃k,k≤5∧10 ^ k=10 ^ j∧n<10 ^ (k+1)∧(k=0∨10 ^ k≤n):=fun h=>⟨j,by omega,rfl,by rw[hp];exact h,hjn⟩
   generalize 10 ^ j=p at*
   have hq:(n:Int).tdiv (p:Int)=((n / p:Nat):Int):=(Int.ofNat_tdiv n p).symm
   have hle:n / p≤n:=Nat.div_le_self n p
   have hd:10≤n / p↔p*10≤n:=by rw[Nat.le_div_iff_mul_le hp1,Nat.mul_comm]
   have hp0:¬(p:Int)=0:=by omega
   have hp0':¬p=0:=by omega
   have wp:IntKind.i64.wrap ((p:Int)*10)=((p*10:Nat):Int):=by rw[wrap64' (by omega) (by omega)];omega
   generalize n / p=q at*
   have wq:IntKind.i64.wrap (q:Int)=(q:Int):=wrap64' (by omega) (by omega)
   by_cases hc:10≤q
   ·have hc':(10:Int)≤q:=by omega
    simp[B.real_whole_1_l0,go_sem,g0,g1,g3,RO.run,rd_one hg,hq,wq,hp0,hp0',hc,hc',wp]
    exact hnext _ (by omega) (.inr (hd.1 hc)) (by simp[go_sem]) (by simp[go_sem]) (by simp[go_sem,wp])
   ·have hc':¬(10:Int)≤q:=by omega
    simp[B.real_whole_1_l0,go_sem,g0,g1,g3,RO.run,rd_one hg,hq,wq,hp0,hp0',hc,hc']
    obtain⟨k,k1,k2,k3,k4⟩:=hend (by omega)
    exact⟨k,k1,by rw[←k2];rfl,k3,k4⟩
theorem whole_l1 {n m:Nat} (hn:n≤65536) {Y:AV} (P:List UInt8→St→Prop) (hg:∀l s,P l s→hget s.h m=some (.cells 3 false [.int .i64 (n:Int)]))
  (hY:∀l s (c:UInt8),P l s→l.length≤10→CRes (call T Y [.int .u8 (c.toNat:Int)] s) fun v s2=>v= .bool true∧P (l++[c]) s2):∀(k:Nat) (l:List UInt8) (e:Env) (st1:St),k≤5→l.length+k≤10→P l st1→eget e 0=Y→eget e 1= .ptr m 0→eget e 3= .int .i64 ((10 ^ k:Nat):Int)→
  Res (run T (.loop B.real_whole_1_l1) e st1) fun x e' s'=>x= .exit 2∧P (l++digsF n k) s':=by
 have step:∀(p:Nat) (l:List UInt8) (e:Env) (st1:St) (Q:Ex→Env→St→Prop),1≤p→p≤100000→l.length≤10→P l st1→eget e 0=Y→eget e 1= .ptr m 0→eget e 3= .int .i64 (p:Int)→
   (∀e' s',P (l++[UInt8.ofNat (48+n / p % 10)]) s'→eget e' 0=Y→eget e' 1= .ptr m 0→eget e' 3= .int .i64 ((p / 10:Nat):Int)→Res (run T (.loop B.real_whole_1_l1) e' s') Q)→
   Res (run T (.loop B.real_whole_1_l1) e st1) Q:=by
  intro p l e st1 Q hp1 hp2 hl hP g0 g1 g3 hfin
  rw[run_loop]
  have hq:(n:Int).tdiv (p:Int)=((n / p:Nat):Int):=(Int.ofNat_tdiv n p).symm
  have hle:n / p≤n:=Nat.div_le_self n p
  have hp0:¬(p:Int)=0:=by omega
  have hp0':¬p=0:=by omega
  have hpp:(0:Int)<p:=by omega
  have hpp':0<p:=by omega
  generalize n / p=q at*
  have wq:IntKind.i64.wrap (q:Int)=(q:Int):=wrap64' (by omega) (by omega)
  obtain⟨hr,_⟩:=div10 q
  obtain⟨_,hs⟩:=div10 p
  have wr:IntKind.u8.wrap ((q % 10:Nat):Int)=((q % 10:Nat):Int):=by
   have:q % 10<10:=Nat.mod_lt _ (by omega)
   generalize q % 10=r at*
   have:r=0∨r=1∨r=2∨r=3∨r=4∨r=5∨r=6∨r=7∨r=8∨r=9:=by omega
   rcases this with rfl | rfl | rfl | rfl | rfl | rfl | rfl | rfl | rfl | rfl <;> rfl
  have ws:IntKind.i64.wrap ((p / 10:Nat):Int)=((p / 10:Nat):Int):=wrap64' (by omega) (by omega)
  obtain⟨w1,_⟩:=digW (Nat.mod_lt q (show 0<10 by omega))
  generalize q % 10=r at*
  generalize p / 10=p2 at*
  generalize UInt8.ofNat (48+r)=c at*
  simp[B.real_whole_1_l1,go_sem,g0,g1,g3,RO.run,rd_one (hg _ _ hP),hq,wq,hp0,hp0',hpp,hpp',hr,wr,w1]
  refine(hY l st1 c hP hl).mono ?_
  rintro v s2 ⟨rfl,hP2⟩
  simp[go_sem,g0,g1,g3,hs,ws]
  exact hfin _ _ hP2 (by simp[go_sem]) (by simp[go_sem]) (by simp[go_sem,hs,ws])
 intro k
 induction k with
 | zero=>
   intro l e st1 _ hl hP g0 g1 g3
   refine step 1 l e st1 _ (by omega) (by omega) (by omega) hP g0 g1 (by simpa using g3) ?_
   intro e' s' hP' k0 k1 k3
   rw[run_loop]
   simp[B.real_whole_1_l1,go_sem,k0,k1,k3]
   rw[Nat.div_one]at hP'
   exact hP'
 | succ k ih=>
   intro l e st1 hk hl hP g0 g1 g3
   have hp1:1≤10 ^ (k+1):=Nat.pow_pos (by omega)
   have hp2:10 ^ (k+1)≤10 ^ 5:=Nat.pow_le_pow_right (by omega) (by omega)
   refine step (10 ^ (k+1)) l e st1 _ hp1 (by omega) (by omega) hP g0 g1 g3 ?_
   intro e' s' hP' k0 k1 k3
   have hp3:10 ^ (k+1) / 10=10 ^ k:=by rw[Nat.pow_succ];omega
   rw[hp3]at k3
   have:=ih (l++[UInt8.ofNat (48+n / 10 ^ (k+1) % 10)]) e' s' (by omega) (by simp;omega) hP' k0 k1 k3
   rw[List.append_assoc]at this
   exact this
theorem whole_yields (H:B.H_real_whole_1 T) {n m:Nat} (hn:n≤65536) {Y:AV} (P:List UInt8→St→Prop) (hg:∀l s,P l s→hget s.h m=some (.cells 3 false [.int .i64 (n:Int)]))
  (hY:∀l s (c:UInt8),P l s→l.length≤10→CRes (call T Y [.int .u8 (c.toNat:Int)] s) fun v s2=>v= .bool true∧P (l++[c]) s2) (hP:P [] st) {Q:St→Prop} (hQ:∀s,P (Lib.decDigits n) s→Q ⟨dropLoc st.nx s.h,s.nx⟩):
  CRes (call T (.fn 139 [] [.ptr m 0]) [Y] st) fun _ s=>Q s:=by
 refine call_any H.e H.f rfl rfl ?_
 simp[B.real_whole_1,go_sem]
 refine(whole_l0 hn (hg _ _ hP) (y:=Y) 5 0 _ rfl (.inl rfl) (by simp[go_sem]) (by simp[go_sem]) (by simp[go_sem])).mono ?_
 rintro x e s ⟨rfl,rfl,k0,k1,k,hk,k3,k4,k5⟩
 simp[go_sem,k0,k1,k3]
 refine(whole_l1 hn P hg hY k [] _ _ hk (by simp;omega) hP (by simp[go_sem]) (by simp[go_sem]) (by simp[go_sem])).mono ?_
 rintro x e s ⟨rfl,hP2⟩
 rw[digsF_dec k n k4 k5]at hP2
 simp[go_sem]
 exact hQ s (by simpa using hP2)
end Go.Ev

/- real.Print told. -/
namespace Go.Ev
open Go
variable {T : Tab} {st : St}
def pb:Nat→MCode
 | 0=>B.real_Print_1.body
 | k+1=>(pb k).b
theorem Bd.frm1 {st0 s s':St} {q m:Nat} {l:List UInt8} {o:AObj} (b:Bd st0 s q l) (f:Frm [m] s s') (hw:s.Wf) (hm:hget s.h m=some o) (h1:∀ty l cs,o≠.cells ty l cs) (h2:∀ty es cs,o≠.buf ty es cs):Bd st0 s' q l:=by
 obtain⟨k1,a,v,k2,k3,k4,k5⟩:=b
 have hq:q≠m:=by rintro rfl;rw[hm]at k2;cases k2;exact h1 _ _ _ rfl
 have hv:∀n∈v.nms,n∉[m]:=by
  intro n hn hnm
  simp at hnm
  subst hnm
  rcases k4.nms hn with ⟨ty,h⟩ | h
  ·rw[hm]at h;cases h;exact h1 _ _ _ rfl
  ·rw[hm]at h;cases h;exact h2 _ _ _ rfl
 exact⟨k1,a,v,f.get hw k2 (by simpa using hq),k3,k4.frm f hw hv,k5⟩
theorem print1_frac (H:B.H_real_Print_1 T) (st0:St):∀(k f:Nat) (first:Bool) (l:List UInt8) (q:Nat) (e:Env) (st1:St),k+1≤17→f<65536→2 ^ (17 - (k+1)) ∣ f→(first=true∨0<f)→(first=true→k=16)→l.length+k≤1000→Ext st0 st1→Bd st0 st1 q l→eget e 4= .ptr q 0→eget e 7= .int .i64 (f:Int)→eget e 8= .bool first→
  Res (run T (.loop B.real_Print_1_l1) e st1) fun x e' s'=>x= .exit 2∧Ext st0 s'∧Bd st0 s' q (l++fracS (k+1) f)∧eget e' 4= .ptr q 0:=by
 intro k
 induction k with
 | zero=>
   intro f first l q e st1 hi hf hd hgo hk hl hx b g4 g7 g8
   obtain⟨m,hm⟩:=hd
   have hf0:f=0:=by
    rw[show (2:Nat) ^ (17 - (0+1))=65536 from rfl]at hm;omega
   exfalso
   rcases hgo with h | h
   ·have:=hk h;omega
   ·omega
 | succ k ih=>
   intro f first l q e st1 hi hf hd hgo hk hl hx b g4 g7 g8
   obtain⟨a1,a2,a3,a4,a5,a6⟩:=frac_nums hf
   obtain⟨w1,w2⟩:=digW a5
   have hdv:=frac_dvd (k:=k+1) (by omega) (by omega) hd
   have hfr:fracS (k+1+1) f=UInt8.ofNat (48+f*10 / 65536)::(if f*10 % 65536=0 then []else fracS (k+1) (f*10 % 65536)):=rfl
   rw[hfr]
   generalize f*10 / 65536=d at*
   generalize f*10 % 65536=r at*
   generalize f*10=t at*
   have wd:IntKind.u8.wrap (d:Int)=(d:Int):=by
    have:d=0∨d=1∨d=2∨d=3∨d=4∨d=5∨d=6∨d=7∨d=8∨d=9:=by omega
    rcases this with rfl | rfl | rfl | rfl | rfl | rfl | rfl | rfl | rfl | rfl <;> rfl
   generalize UInt8.ofNat (48+d)=c at*
   obtain⟨OUT,hO⟩:∃OUT,OUT=l++c::(if r=0 then []else fracS (k+1) r):=⟨_,rfl⟩
   rw[←hO]
   have fin:∀e' s',Ext st0 s'→Bd st0 s' q (l++[c])→eget e' 4= .ptr q 0→eget e' 7= .int .i64 (r:Int)→eget e' 8= .bool false→
     Res (run T (.loop B.real_Print_1_l1) e' s') fun x e' s'=>x= .exit 2∧Ext st0 s'∧Bd st0 s' q OUT∧eget e' 4= .ptr q 0:=by
    intro e' s' hx' b' k4 k7 k8
    by_cases hr:r=0
    ·subst hr
     have hO':OUT=l++[c]:=by rw[hO];simp
     rw[run_loop]
     simp[B.real_Print_1_l1,go_sem,k4,k7,k8,hx',hO',b']
    ·have hO':OUT=(l++[c])++fracS (k+1) r:=by rw[hO,if_neg hr];simp
     rw[hO']
     exact ih r false (l++[c]) q e' s' (by omega) a6 hdv (.inr (by omega)) (by simp) (by simp;omega) hx' b' k4 k7 k8
   rw[run_loop]
   by_cases hf0:0<f
   ·have hf0':(0:Int)<f:=by omega
    simp[B.real_Print_1_l1,go_sem,g4,g7,g8,a1,a2,a3,a4,hf0,hf0',wd,w1]
    refine(writeByte_at H.strings_Builder_WriteByte hx c rfl b (by omega)).mono ?_
    rintro _ s1 ⟨x1,b1⟩
    simp[go_sem,a3]
    exact fin _ _ x1 b1 (by simp[go_sem]) (by simp[go_sem,a3]) (by simp[go_sem])
   ·have hf1:first=true:=by rcases hgo with h | h;exact h;exact absurd h hf0
    subst hf1
    have hf0':¬(0:Int)<f:=by omega
    simp[B.real_Print_1_l1,go_sem,g4,g7,g8,a1,a2,a3,a4,hf0,hf0',wd,w1]
    refine(writeByte_at H.strings_Builder_WriteByte hx c rfl b (by omega)).mono ?_
    rintro _ s1 ⟨x1,b1⟩
    simp[go_sem,a3]
    exact fin _ _ x1 b1 (by simp[go_sem]) (by simp[go_sem,a3]) (by simp[go_sem])
theorem Bd.dropLoc {st0 s:St} {q c:Nat} {l:List UInt8} (b:Bd st0 s q l) (hw:s.Wf):Bd st0 ⟨Go.Ev.dropLoc c s.h,s.nx⟩ q l:=by
 obtain⟨k1,a,v,k2,k3,k4,k5⟩:=b
 exact⟨k1,a,v,hget_dropLoc_keep hw k2 rfl,k3,k4.dropLoc hw,k5⟩
theorem box_not (n:Int) (l:List UInt8):[AV.int .i64 n]≠u8s l:=by
 cases l with
 | nil=>simp[u8s]
 | cons c l=>simp[u8s]
theorem print1_tail (H:B.H_real_Print_1 T) (st0:St) {q u:Nat} {pre:List UInt8} {e:Env} {s1:St} (hu:u≤4294967296) (hpre:pre.length≤1) (hx:Ext st0 s1) (b:Bd st0 s1 q pre) (g4:eget e 4= .ptr q 0) (g5:eget e 5= .int .i64 (u:Int)):
  Res (run T (pb 4) e s1) fun x e' s'=>x= .ret∧Ext st0 s'∧eget e' 1= .str (pre++(Lib.decDigits (u / 65536)++(46::fracS 17 (u % 65536))))∧eget e' 2= .int .i64 0∧eget e' 3= .int .i64 0:=by
 obtain⟨a1,a2⟩:=div65536 u
 have hq:u / 65536≤65536:=by omega
 have hr:u % 65536<65536:=by omega
 have wq:IntKind.i64.wrap ((u / 65536:Nat):Int)=((u / 65536:Nat):Int):=wrap64' (by omega) (by omega)
 generalize u / 65536=n at*
 generalize u % 65536=r at*
 simp only[pb,B.real_Print_1,ab_seq]
 simp[go_sem,g5,a1,wq]
 refine whole_call H.real_whole hx.wf ?_
 simp[go_sem]
 refine res_rangeFunc ?_
 simp[go_sem]
 have hqlt:q<s1.nx:=by
  obtain⟨_,_,_,k2,_⟩:=b
  exact hx.wf.lt _ _ k2
 have hd:=decDigits_len10 (u:=n) (by omega)
 have xa:=Ext.new hx.wf (.cells 3 false [.int .i64 (n:Int)])
 generalize hE:((17,AV.fn 139 [] [.ptr s1.nx 0])::(16,AV.int .i64 (n:Int))::(15,AV.int .i64 (u:Int))::e:Env)=E
 have q4:eget E 4= .ptr q 0:=by rw[←hE];simp[go_sem,g4]
 clear hE
 obtain⟨W,hW⟩:∃W,W=B.real_Print_1_l0:=⟨_,rfl⟩
 rw[←hW]
 generalize hO:(fun st=>AObj.loop st E [18] (MCode.reg [{dst:=some 6,guard:=none,op:=MO.p (PO.mov (AO.t 18))}]) W)=O
 have hOr:AObj.loop .ready E [18] (MCode.reg [{dst:=some 6,guard:=none,op:=MO.p (PO.mov (AO.t 18))}]) W=O .ready:=by rw[←hO]
 have hOb:AObj.loop .busy E [18] (MCode.reg [{dst:=some 6,guard:=none,op:=MO.p (PO.mov (AO.t 18))}]) W=O .busy:=by rw[←hO]
 have on1:∀z ty l cs,O z≠.cells ty l cs:=fun z ty l cs=>by rw[←hO];simp
 have on2:∀z ty es cs,O z≠.buf ty es cs:=fun z ty es cs=>by rw[←hO];simp
 have hOe:∀z,O z=AObj.loop z E [18] (MCode.reg [{dst:=some 6,guard:=none,op:=MO.p (PO.mov (AO.t 18))}]) W:=fun z=>by rw[←hO]
 rw[hOr]
 have xb:=xa.trans (Ext.new xa.wf (O .ready))
 simp only[Nat.add_assoc,Nat.reduceAdd]at xb⊢
 clear hO
 refine(whole_yields H.real_whole.real_whole_1 (n:=n) (m:=s1.nx) hq
  (fun l s=>Ext st0 s∧Bd st0 s q (pre++l)∧hget s.h (s1.nx+1)=some (O .ready)∧hget s.h s1.nx=some (.cells 3 false [.int .i64 (n:Int)])) (fun l s h=>h.2.2.2) ?_
  ⟨hx.trans xb,by simpa using b.ext xb hx.wf,by simp[hget_cons],by simp[hget_cons]⟩ (Q:=fun s=>Ext st0 s∧Bd st0 s q (pre++Lib.decDigits n)∧hget s.h (s1.nx+1)=some (O .ready)) ?_).mono ?_
 ·rintro l s c ⟨k1,k2,k3,k4⟩ hl
  rw[hOe]at k3
  refine cres_yield k3 rfl ?_
  simp[go_sem,k3]
  rw[hOr]at k3
  rw[hOb]
  have y1:Ext st0 ⟨hset s.h (s1.nx+1) (O .busy),s.nx⟩:=k1.setNew k3 (by have:=hx.nx;omega)
  have y2:=k2.frm1 (Frm.set k1.wf k3 (o:=O .busy)) k1.wf k3 (on1 _) (on2 _)
  have y3:=hget_hset_self (o:=O .busy) k3
  have y4:=(hget_hset_ne (m:=s1.nx) (o:=O .busy) k3 (by omega)).trans k4
  refine Res.mono (Q:=fun x _ s2=>x= .norm∧Ext st0 s2∧Bd st0 s2 q (pre++l++[c])∧hget s2.h (s1.nx+1)=some (O .busy)∧hget s2.h s1.nx=some (.cells 3 false [.int .i64 (n:Int)])) ?_ ?_
  ·rw[hW]
   simp[B.real_Print_1_l0,go_sem,q4]
   refine(writeByte_frm H.strings_Builder_WriteByte y1 c rfl y2 (by simp;omega)).mono ?_
   rintro _ s2 ⟨⟨z1,z2⟩,z3⟩
   have w1:=z3 (s1.nx+1) (O .busy) (by omega) y3 (fun ty=>on1 _ _ _ _) (on2 _ _ _ _)
   have w2:=z3 s1.nx _ (by omega) y4 (fun ty h=>by injection h with _ _ h;exact box_not _ _ h) (by simp)
   simp[go_sem,z1,w1,w2]
   simpa using z2
  ·rintro _ _ s2 ⟨rfl,z1,z2,w1,w2⟩
   refine⟨by rw[hOb];exact w1,?_⟩
   show AV.bool true= .bool true∧_
   rw[hOr]
   refine⟨rfl,z1.setNew w1 (by have:=hx.nx;omega),?_,hget_hset_self w1,(hget_hset_ne w1 (by omega)).trans w2⟩
   rw[←List.append_assoc]
   exact z2.frm1 (Frm.set z1.wf w1 (o:=O .ready)) z1.wf w1 (on1 _) (on2 _)
 ·rintro s ⟨k1,k2,k3,k4⟩
  exact⟨k1.dropGe (by have:=hx.nx;simp only;omega),k2.dropLoc k1.wf,by rw[hget_dropLoc_lt (by simp only;omega)];exact k3⟩
 ·rintro _ s ⟨k1,k2,k3⟩
  refine .inl ⟨k3,?_⟩
  have f:=Frm.hdel (st:=s) k1.wf (s1.nx+1)
  have y1:Ext st0 ⟨hdel s.h (s1.nx+1),s.nx⟩:=k1.frm f (by have:=hx.nx;simp;omega)
  have y2:=k2.frm1 f k1.wf k3 (on1 _) (on2 _)
  rw[g4]
  refine(writeByte_at H.strings_Builder_WriteByte y1 46 rfl y2 (by simp;omega)).mono ?_
  rintro _ s2 ⟨x2,b2⟩
  simp[go_sem,g5,a2]
  refine(print1_frac H st0 16 r true _ q _ s2 (by omega) hr (by simp) (.inl rfl) (fun _=>rfl) (by simp;omega) x2 b2 (by simp[go_sem]) (by simp[go_sem]) (by simp[go_sem])).mono ?_
  rintro x e' s3 ⟨rfl,x3,b3,g4'⟩
  have:=fracS_len 17 r
  simp[go_sem,g4']
  refine(string_res H.strings_Builder_String x3 b3 (by simp;omega) (by simp;omega)).mono ?_
  rintro v s4 ⟨rfl,x4⟩
  simp[go_sem]
  exact x4
theorem print1_tells (H:B.H_real_Print_1 T) (hwf:st.Wf) {p:Nat} {n:Int} (hp:hget st.h p=some (.cells 3 true [.int .i64 n])) (h0: -4294967296≤n) (h1:n≤4294967296):Tells T st (.fn 136 [] [.ptr p 0]) [] (.tuple [.str (printS n),.int .i64 0,.int .i64 0]):=by
 refine tells_of H.e H.f rfl ?_
 have hx:=Ext.new hwf (.cells 84 false [.nilptr,.nilslice])
 have hb:Bd st ⟨(st.nx,.cells 84 false [.nilptr,.nilslice])::st.h,st.nx+1⟩ st.nx []:=⟨Nat.le_refl _,.nilptr,.nilslice,by simp[hget_cons],.inl rfl,.nil _ _,by simp[AV.nms]⟩
 have hp0:=hx.get hwf hp
 refine cut (c:=pb 0) rfl (by intro l;simp[pb,B.real_Print_1,ab_seq]) (fun x e' s'=>x= .norm∧s'=st∧eget e' 0= .ptr p 0) ?_ ?_
 ·simp only[pb,B.real_Print_1,ab_seq]
  simp[go_sem]
 rintro _ e1 s1 ⟨rfl,hst,g0⟩
 rw[kSeq_norm,hst]
 clear hst
 refine cut (c:=pb 1) rfl (by intro l;simp[pb,B.real_Print_1,ab_seq]) (fun x e' s'=>x= .norm∧s'=⟨(st.nx,.cells 84 false [.nilptr,.nilslice])::st.h,st.nx+1⟩∧eget e' 0= .ptr p 0∧eget e' 4= .ptr st.nx 0) ?_ ?_
 ·simp only[pb,B.real_Print_1,ab_seq]
  simp[go_sem,NO.run,g0]
 rintro _ e2 s2 ⟨rfl,hst,g0,g4⟩
 rw[kSeq_norm,hst]
 clear hst
 have hp1:rdCell (⟨(st.nx,.cells 84 false [.nilptr,.nilslice])::st.h,st.nx+1⟩:St).h p 0=some (.int .i64 n):=rd_one hp0
 generalize hS:(⟨(st.nx,.cells 84 false [.nilptr,.nilslice])::st.h,st.nx+1⟩:St)=sA at hx hb hp1⊢
 clear hS
 refine cut (c:=pb 2) rfl (by intro l;simp[pb,B.real_Print_1,ab_seq]) (fun x e' s'=>x= .norm∧s'=sA∧eget e' 4= .ptr st.nx 0∧eget e' 5= .int .i64 n) ?_ ?_
 ·simp only[pb,B.real_Print_1,ab_seq]
  simp[go_sem,RO.run,g0,g4,hp1]
 rintro _ e3 s3 ⟨rfl,hst,g4,g5⟩
 rw[kSeq_norm,hst]
 clear hst
 refine cut (c:=pb 3) rfl (by intro l;simp[pb,B.real_Print_1,ab_seq]) (fun x e' s'=>x= .norm∧eget e' 4= .ptr st.nx 0∧∃(u:Nat) (pre:List UInt8),eget e' 5= .int .i64 (u:Int)∧u≤4294967296∧pre.length≤1∧Ext st s'∧Bd st s' st.nx pre∧printS n=pre++(Lib.decDigits (u / 65536)++(46::fracS 17 (u % 65536)))) ?_ ?_
 ·simp only[pb,B.real_Print_1,ab_seq]
  by_cases hn:n<0
  ·obtain⟨u,hu⟩:∃u:Nat,n= -(u:Int):=⟨n.natAbs,by omega⟩
   have e1:IntKind.i64.wrap (-n)=u:=by rw[wrap64' (by omega) (by omega)];omega
   simp[go_sem,g4,g5,hn]
   refine(writeByte_at H.strings_Builder_WriteByte hx 45 rfl hb (by simp)).mono ?_
   rintro _ s1 ⟨x1,b1⟩
   simp[go_sem,g4,g5,e1]
   exact⟨u,rfl,by omega,[45],by simp,x1,by simpa using b1,by rw[hu,printS_neg (by omega)];rfl⟩
  ·obtain⟨u,rfl⟩:=Int.eq_ofNat_of_zero_le (show 0≤n by omega)
   simp[go_sem,g4,g5,hn]
   exact⟨u,rfl,by omega,[],by simp,hx,hb,by rw[printS_pos];rfl⟩
 rintro _ e4 s4 ⟨rfl,g4,u,pre,g5,hu,hpre,x4,b4,hpr⟩
 rw[kSeq_norm,hpr]
 refine(print1_tail H st (q:=st.nx) hu hpre x4 b4 g4 g5).mono ?_
 rintro _ e5 s5 ⟨rfl,x5,k1,k2,k3⟩
 refine⟨.inr rfl,?_⟩
 simp[B.real_Print_1,fresults,resVals,resVal,RO.run,k1,k2,k3,x5]
theorem realPrint_tells (H:B.H_real_Print T) (hwf:st.Wf) {n:Int} (h0: -2147483648≤n) (h1:n≤2147483648):Tells T st (.fn 133 [] []) [.int .i64 n] (.tuple [.str (printS n),.int .i64 0]):=by
 refine tells_of H.e H.f rfl ?_
 have hx:=Ext.new hwf (.cells 3 true [.int .i64 n])
 have hx2:=hx.trans (Ext.new hx.wf (.cells 3 false [.int .i64 n]))
 simp only[Nat.add_assoc,Nat.reduceAdd]at hx2
 have hr:Tells T ⟨(st.nx+1,.cells 3 false [.int .i64 n])::(st.nx,.cells 3 true [.int .i64 n])::st.h,st.nx+2⟩ (.fn 137 [] []) [.fn 136 [] [.ptr st.nx 0],.slice (st.nx+1) 0 1 (.known 1)] (.tuple [.str (printS n),.int .i64 0]):=by
  refine tells_of H.real_result_string.e H.real_result_string.f rfl ?_
  simp[B.real_result_string,go_sem]
  rw[run_loop]
  simp[B.real_result_string_l0,go_sem,RO.run,rdCell,hget_cons]
  refine(is110_tells H.real_result_string.real_Is hx2.wf).use fun s1 x1=> ?_
  simp[go_sem,h0,h1]
  rw[run_loop,show IntKind.i64.wrap 1=1 from rfl]
  simp[B.real_result_string_l0,go_sem]
  have hp:hget s1.h st.nx=some (.cells 3 true [.int .i64 n]):=x1.get hx2.wf (by simp[hget_cons])
  refine(print1_tells H.real_Print_1 x1.wf hp (by omega) (by omega)).use fun s2 x2=> ?_
  simp[go_sem]
  refine(is110_tells H.real_result_string.real_Is x2.wf).use fun s3 x3=> ?_
  simp[go_sem]
  exact(x1.trans x2).trans x3
 simp[B.real_Print,go_sem,NO.run,RO.run,rdCell,hget_cons,Nat.add_assoc]
 refine hr.use fun s1 x1=> ?_
 simp[go_sem]
 exact hx2.trans x1
end Go.Ev

/- lex.Text; the token of a draft. -/
namespace Go.Ev
open Go
variable {T : Tab} {st : St}
def Pow (st:St):Prop:=∃m cs,hget st.h m=some (.glob B.gPow10 cs)∧cs.map B.av64=Lib.pow10Tab.map some
theorem Pow.ext {s:St} (h:Pow st) (x:Ext st s) (hw:st.Wf):Pow s:=by
 obtain⟨m,cs,h1,h2⟩:=h
 exact⟨m,cs,x.get hw h1,h2⟩
theorem itoa_call (H:B.H_strconv_Itoa T) (hp:Pow st) {n:Int} (h0: -9223372036854775808≤n) (h1:n≤9223372036854775807):call T (.fn 132 [] []) [.int .i64 n] st=some (.str (Lib.itoa n),st):=by
 obtain⟨m,cs,k1,k2⟩:=hp
 rw[call_entry H.en]
 simp only[List.nil_append,List.append_nil,B.E_strconv_Itoa]
 rw[if_pos ⟨hasPow_of k1 k2,h0,h1⟩]
theorem lexText_tells (H:B.H_lex_Text T) (hwf:st.Wf) (hp:Pow st) {k n:Int} {t:List UInt8} (hs:t.length<1000000000000):Tells T st (.fn 128 [] []) [.agg [.int .i64 k,.int .i64 n,.str t]]
  (.tuple [.str (if rightT k n t=true then textS k n t else []),.int .i64 (if rightT k n t=true then 0 else 130)]):=by
 refine tells_of H.e H.f rfl ?_
 have hx:=Ext.new hwf (.cells 134 true [.int .i64 k,.int .i64 n,.str t])
 have g:hget ((st.nx,AObj.cells 134 true [.int .i64 k,.int .i64 n,.str t])::st.h) st.nx=some (.cells 134 true [.int .i64 k,.int .i64 n,.str t]):=by simp[hget_cons]
 simp[B.lex_Text,go_sem,NO.run,WO.run,RO.run,rd_tok]
 refine(check_tells H.lex_Check hx.wf (by omega)).use fun s1 hs1=> ?_
 have e1:=hx.trans hs1
 have g1:=hs1.get hx.wf g
 have p1:=hp.ext e1 hwf
 cases hr:rightT k n t with
 | false=>simp[go_sem,e1]
 | true=>
   have hb:=right_bound hr
   have hl1:1+t.length<4611686018427387904:=by omega
   have hl2:2+t.length<4611686018427387904:=by omega
   simp[go_sem,RO.run,rdCell,g1]
   by_cases h1:k=1
   ·subst h1
    obtain⟨b0,b1⟩:=hb (.inl rfl)
    have hi:=itoa_call (n:=n) H.strconv_Itoa p1 (by omega) (by omega)
    simp[go_sem,RO.run,rdCell,g1,hi,textS,e1]
   by_cases h2:k=2
   ·subst h2
    have hb2: -2147483648≤n∧n≤2147483648:=by simp[rightT]at hr;omega
    simp[go_sem,RO.run,rdCell,g1]
    refine(realPrint_tells H.real_Print e1.wf hb2.1 hb2.2).use fun s2 x2=> ?_
    simp[go_sem,textS,e1.trans x2]
   by_cases h4:k=4
   ·subst h4
    simp[go_sem,RO.run,rdCell,g1,hl1,textS,e1]
   by_cases h5:k=5
   ·subst h5
    simp[go_sem,RO.run,rdCell,g1,hl2,textS,e1]
   by_cases h6:k=6
   ·subst h6
    simp[go_sem,RO.run,rdCell,g1]
    refine(quote_tells H.lex_Quote e1.wf hs).use fun s2 x2=> ?_
    simp[go_sem,textS,e1.trans x2]
   by_cases h7:k=7
   ·subst h7
    simp[go_sem,RO.run,rdCell,g1,textS,e1]
   by_cases h8:k=8
   ·subst h8
    simp[go_sem,RO.run,rdCell,g1,textS,e1]
   simp[go_sem,RO.run,rdCell,g1,h1,h2,h4,h5,h6,h7,h8,textS,e1]
def nameD (K:Nat):List UInt8:=match K / 8 % 7 with
 | 0=>[97]
 | 1=>[91]
 | 2=>[93]
 | 3=>[60,60]
 | 4=>[62,62]
 | 5=>[120,45,49]
 | _=>[61]
def regD (t:List UInt8):List UInt8:=(t.take 20).filter isReg
def draftT (K:Nat) (N:Int) (t:List UInt8):Int×Int×List UInt8:=
 if K % 8=0∨K % 8=1 then(1+(K % 8:Nat),N,[])
 else if K % 8=5 then(6,0,t.take 60)
 else if K % 8=6∨K % 8=7 then(1+(K % 8:Nat),0,[])
 else if K % 8=2∧rightT 3 0 (regD t)=false then(3,0,nameD K)
 else(1+(K % 8:Nat),0,regD t)
theorem rd_at {h:Heap} {n ty k:Nat} {l:Bool} {cs:List AV} {v:AV} (hg:hget h n=some (.cells ty l cs)) (hk:cs[k]? =some v):rdCell h n k=some v:=by simp[rdCell,hg,hk]
theorem Ext.get' {s s':St} (a:Ext s s') {n:Nat} {o:AObj} (hl:n<s.nx) (h:hget s.h n=some o):hget s'.h n=some o:=by rw[a.keep n hl,h]
theorem token_loop (H:B.H_chaseref03_Draft_Token T) {stA:St} {b r:Nat} {K N:AV} {t:List UInt8} (hb:hget stA.h b=some (.cells 205 true [K,N,.str t])) (hbl:b<stA.nx) {kv:AV} {L:Nat} (hL:L=min t.length 20) (ht:t.length<9223372036854775808):
  ∀(m i:Nat) (out:List UInt8) (e:Env) (st1:St) (v:AV),i+m=L→out.length≤i→Ext stA st1→Sl st1 v 5 1 out.length (u8s out)→Mine [] stA v→eget e 1= .ptr b 0→eget e 2= .ptr r 0→eget e 3=kv→eget e 4=v→eget e 5= .int .i64 i→
  Res (run T (.loop B.chaseref03_Draft_Token_l0) e st1) fun x e' s'=>x= .exit 1∧Ext stA s'∧eget e' 1= .ptr b 0∧eget e' 2= .ptr r 0∧eget e' 3=kv∧Sl s' (eget e' 4) 5 1 (out++((t.take 20).drop i).filter isReg).length (u8s (out++((t.take 20).drop i).filter isReg))∧Mine [] stA (eget e' 4):=by
 have hlen:(t.take 20).length=L:=by rw[List.length_take];omega
 intro m
 induction m with
 | zero=>
   intro i out e st1 v hi ho hx hg hm g1 g2 g3 g4 g5
   have hd:(t.take 20).drop i=[]:=List.drop_eq_nil_of_le (by omega)
   rw[hd,run_loop]
   have rb:=rd_at (k:=2) (hx.get' hbl hb) rfl
   by_cases h1:i<t.length
   ·have h1':(i:Int)<t.length:=by omega
    have h2:¬(i:Int)<20:=by omega
    have h2':¬i<20:=by omega
    simp[B.chaseref03_Draft_Token_l0,go_sem,RO.run,g1,g2,g3,g4,g5,rb,h1,h1',h2,h2',hx,hg,hm]
   ·have h1':¬(i:Int)<t.length:=by omega
    simp[B.chaseref03_Draft_Token_l0,go_sem,RO.run,g1,g2,g3,g4,g5,rb,h1,h1',hx,hg,hm]
 | succ m ih=>
   intro i out e st1 v hi ho hx hg hm g1 g2 g3 g4 g5
   have hil:i<t.length:=by omega
   have hil':(i:Int)<t.length:=by omega
   have h2:(i:Int)<20:=by omega
   have h2':i<20:=by omega
   obtain⟨c,hc,_⟩:=idx_some (s:=t) (i:=i) hil
   have hd:(t.take 20).drop i=c::(t.take 20).drop (i+1):=by
    have hi2:i<(t.take 20).length:=by omega
    rw[List.drop_eq_getElem_cons hi2]
    congr 1
    rw[List.getElem_take]
    exact(List.getElem?_eq_some_iff.1 hc).2
   have ek:IntKind.i64.wrap ((i:Int)+1)=((i+1:Nat):Int):=wrap64' (by omega) (by omega)
   have hge:∀n∈v.nms,stA.nx≤n:=fun n hn=>by
    rcases hm n hn with h | h
    ·cases h
    ·exact h
   have rb:=rd_at (k:=2) (hx.get' hbl hb) rfl
   obtain⟨OUT,hO⟩:∃OUT,OUT=out++((t.take 20).drop i).filter isReg:=⟨_,rfl⟩
   have hOt:isReg c=true→(out++[c])++((t.take 20).drop (i+1)).filter isReg=OUT:=fun h=>by rw[hO,hd,List.filter_cons,if_pos h];simp
   have hOf:isReg c=false→out++((t.take 20).drop (i+1)).filter isReg=OUT:=fun h=>by rw[hO,hd,List.filter_cons,if_neg (by simp[h])]
   rw[←hO,run_loop]
   clear hd hO
   simp[B.chaseref03_Draft_Token_l0,go_sem,RO.run,g1,g2,g3,g4,g5,rb,hil',h2,h2',hc]
   refine(refRegular_tells H.chaseref03_Regular hx.wf c).use fun s1 x1=> ?_
   have hx1:=hx.trans x1
   have rb1:=rd_at (k:=2) (hx1.get' hbl hb) rfl
   cases hrg:isReg c with
   | true=>
     have hap:=GrowS.app (m:=[c]) hx1.nx hx1.wf (hg.ext x1 hx.wf) hm (by simp) (by simp;omega)
     have hu:u8s [c]=[.int .u8 (c.toNat:Int)]:=rfl
     rw[hu]at hap
     have hap:CRes _ _:=hap
     have ih2:=fun e' st2 v'=>ih (i+1) (out++[c]) e' st2 v' (by omega) (by simp;omega)
     rw[hOt hrg]at ih2
     simp[go_sem,RO.run,NO.run,reps,g1,g2,g3,g4,g5,rb1,hc]
     refine hap.mono ?_
     rintro v2 s2 ⟨o2,m2,_,f2⟩
     simp[go_sem,ek]
     exact ih2 _ _ v2 (hx1.frm f2 hge) o2 m2 (by simp[go_sem,g1]) (by simp[go_sem,g2]) (by simp[go_sem,g3]) (by simp[go_sem]) (by simp[go_sem,ek])
   | false=>
     have ih2:=fun e' st2 v'=>ih (i+1) out e' st2 v' (by omega) (by omega)
     rw[hOf hrg]at ih2
     simp[go_sem,g1,g2,g3,g4,g5,ek]
     exact ih2 _ _ v hx1 (hg.ext x1 hx.wf) hm (by simp[go_sem,g1]) (by simp[go_sem,g2]) (by simp[go_sem,g3]) (by simp[go_sem,g4]) (by simp[go_sem,ek])
def tb:Nat→MCode
 | 0=>B.chaseref03_Draft_Token.body
 | k+1=>(tb k).b
theorem nameD_eq {K:Nat} (hK:K<256):∃q s:Nat,(K:Int).tdiv 8=(q:Int)∧IntKind.u8.wrap (q:Int)=q∧(q:Int).tmod 7=(s:Int)∧s<7∧[[97],[91],[93],[60,60],[62,62],[120,45,49],[61]][s]? =some (nameD K):=by
 refine⟨K / 8,K / 8 % 7,?_,?_,?_,by omega,?_⟩
 ·rw[Int.tdiv_eq_ediv_of_nonneg (by omega)];omega
 ·have h:(List.range 32).all (fun n=>decide (IntKind.u8.wrap ((n:Nat):Int)=n))=true:=by kernel_rfl
  have:=List.all_eq_true.1 h (K / 8) (List.mem_range.2 (by omega))
  simpa using this
 ·rw[Int.tmod_eq_emod_of_nonneg (by omega)];omega
 ·have:K / 8 % 7<7:=by omega
  unfold nameD
  generalize K / 8 % 7=s at*
  have:s=0∨s=1∨s=2∨s=3∨s=4∨s=5∨s=6:=by omega
  rcases this with rfl | rfl | rfl | rfl | rfl | rfl | rfl <;> rfl
theorem token_tail (H:B.H_chaseref03_Draft_Token T) {st0 stA:St} {b r:Nat} {K k:Nat} {N:Int} {t:List UInt8} (hK:K<256) (ht:t.length<9223372036854775808) (hx0:Ext st0 stA) (hb:hget stA.h b=some (.cells 205 true [.int .u8 (K:Int),.int .i32 N,.str t]))
  (hr:hget stA.h r=some (.cells 134 true [.int .i64 0,.int .i64 0,.str []])) (hr0:st0.nx≤r) (hk:k=3∨k=4∨k=5) {e:Env} (g1:eget e 1= .ptr b 0) (g2:eget e 2= .ptr r 0) (g3:eget e 3= .int .i64 (k:Int)):
  Res (run T (tb 3) e stA) fun x e' s'=>x= .ret∧Ext st0 s'∧eget e' 2= .ptr r 0∧hget s'.h r=some (.cells 134 true [.int .i64 (k:Int),.int .i64 0,.str (if k=3∧rightT 3 0 (regD t)=false then nameD K else regD t)]):=by
 have hbl:=hx0.wf.lt _ _ hb
 have hrl:=hx0.wf.lt _ _ hr
 show Res (run T (.seq (.keep [1,2,3]) (tb 4)) e stA) _
 rw[run_keep]
 have h4:eget (keepE [1,2,3] e) 1= .ptr b 0∧eget (keepE [1,2,3] e) 2= .ptr r 0∧eget (keepE [1,2,3] e) 3= .int .i64 (k:Int):=by simp[keepE,eget,g1,g2,g3]
 generalize keepE [1,2,3] e=e0 at h4
 obtain⟨g1,g2,g3⟩:=h4
 refine cut (c:=tb 4) rfl (by intro l;simp[tb,B.chaseref03_Draft_Token,ab_seq]) (fun x e' s'=>x= .norm∧s'=stA∧eget e' 1= .ptr b 0∧eget e' 2= .ptr r 0∧eget e' 3= .int .i64 (k:Int)∧eget e' 4= .nilslice) ?_ ?_
 ·simp only[tb,B.chaseref03_Draft_Token,ab_seq]
  simp[go_sem,g1,g2,g3]
 rintro _ e1 s1 ⟨rfl,hst,g1,g2,g3,g4⟩
 rw[kSeq_norm,hst]
 clear hst
 refine cut (c:=tb 5) rfl (by intro l;simp[tb,B.chaseref03_Draft_Token,ab_seq]) (fun x e' s'=>x= .norm∧Ext stA s'∧eget e' 1= .ptr b 0∧eget e' 2= .ptr r 0∧eget e' 3= .int .i64 (k:Int)∧Sl s' (eget e' 4) 5 1 (regD t).length (u8s (regD t))∧Mine [] stA (eget e' 4)) ?_ ?_
 ·simp only[tb,B.chaseref03_Draft_Token,ab_seq]
  simp[go_sem,g1,g2,g3,g4]
  refine(token_loop H hb hbl (r:=r) (kv:= .int .i64 (k:Int)) rfl ht (min t.length 20) 0 [] _ stA .nilslice (by simp) (by simp) (.refl hx0.wf) ⟨0,.nil rfl rfl rfl⟩ (fun n h=>by simp[AV.nms]at h) (by simp[go_sem,g1]) (by simp[go_sem,g2]) (by simp[go_sem,g3]) (by simp[go_sem,g4]) (by simp[go_sem])).mono ?_
  rintro x e1 s1 ⟨rfl,x1,k1,k2,k3,hsl,hmine⟩
  have hR:[]++((t.take 20).drop 0).filter isReg=regD t:=by simp[regD]
  rw[hR]at hsl
  simp[go_sem,k1,k2,k3,x1]
  exact⟨hsl,hmine⟩
 rintro _ e2 s2 ⟨rfl,x2,g1,g2,g3,hsl,hmine⟩
 rw[kSeq_norm]
 have hRl:(regD t).length≤20:=by
  unfold regD
  exact Nat.le_trans (List.length_filter_le _ _) (by rw[List.length_take];omega)
 generalize regD t=R at*
 obtain⟨v,hv⟩:∃v,eget e2 4=v:=⟨_,rfl⟩
 rw[hv]at hsl hmine
 show Res (run T (.seq (.keep [1,2,3,4]) (tb 7)) e2 s2) _
 rw[run_keep]
 have h5:eget (keepE [1,2,3,4] e2) 1= .ptr b 0∧eget (keepE [1,2,3,4] e2) 2= .ptr r 0∧eget (keepE [1,2,3,4] e2) 3= .int .i64 (k:Int)∧eget (keepE [1,2,3,4] e2) 4=v:=by simp[keepE,eget,g1,g2,g3,hv]
 generalize keepE [1,2,3,4] e2=e3 at h5
 obtain⟨g1,g2,g3,g4⟩:=h5
 have hz:=toBytes_u8s R
 refine cut (c:=tb 7) rfl (by intro l;simp[tb,B.chaseref03_Draft_Token,ab_seq]) (fun x e' s'=>x= .norm∧s'=⟨(s2.nx,.cells 134 true [.int .i64 (k:Int),.int .i64 0,.str R])::s2.h,s2.nx+1⟩∧eget e' 1= .ptr b 0∧eget e' 2= .ptr r 0∧eget e' 3= .int .i64 (k:Int)∧eget e' 6= .ptr s2.nx 0) ?_ ?_
 ·simp only[tb,B.chaseref03_Draft_Token,ab_seq]
  rcases hsl.rd with ⟨h1,h2,h3⟩ | ⟨n,off,cp,h1,h2⟩
  ·have:R=[]:=List.length_eq_zero_iff.1 h2
   subst this
   subst h1
   simp[go_sem,RO.run,NO.run,WO.run,wr_tok,g1,g2,g3,g4]
  ·subst h1
   rw[Nat.mul_one]at h2
   simp[go_sem,RO.run,NO.run,WO.run,wr_tok,g1,g2,g3,g4,h2,hz]
 rintro _ e4 s4 ⟨rfl,hst,g1,g2,g3,g6⟩
 rw[kSeq_norm,hst]
 clear hst
 have y1:=x2.trans (Ext.new x2.wf (.cells 134 true [.int .i64 (k:Int),.int .i64 0,.str R]))
 have hm:hget ((s2.nx,AObj.cells 134 true [.int .i64 (k:Int),.int .i64 0,.str R])::s2.h) s2.nx=some (.cells 134 true [.int .i64 (k:Int),.int .i64 0,.str R]):=by simp[hget_cons]
 have hm0:=x2.nx
 generalize hS:(⟨(s2.nx,AObj.cells 134 true [.int .i64 (k:Int),.int .i64 0,.str R])::s2.h,s2.nx+1⟩:St)=sA at y1⊢
 rw[show (s2.nx,AObj.cells 134 true [.int .i64 (k:Int),.int .i64 0,.str R])::s2.h=sA.h by rw[←hS]]at hm
 clear hS
 generalize s2.nx=m at*
 have gb:=y1.get' hbl hb
 refine cut (c:=tb 8) rfl (by intro l;simp[tb,B.chaseref03_Draft_Token,ab_seq]) (fun x e' s'=>x= .norm∧Ext stA s'∧eget e' 2= .ptr r 0∧eget e' 6= .ptr m 0∧hget s'.h m=some (.cells 134 true [.int .i64 (k:Int),.int .i64 0,.str (if k=3∧rightT 3 0 R=false then nameD K else R)])) ?_ ?_
 ·simp only[tb,B.chaseref03_Draft_Token,ab_seq]
  by_cases h3:k=3
  ·subst h3
   simp[go_sem,RO.run,g1,g2,g3,g6,tok_rd hm]
   refine(refRight_tells H.chaseref03_Right y1.wf (by omega)).use fun s5 x5=> ?_
   have y5:=y1.trans x5
   have hm5:=x5.get y1.wf hm
   have gb5:=y5.get' hbl hb
   cases hrt:rightT 3 0 R with
   | true=>simp[go_sem,g1,g2,g3,g6,hrt,y5,hm5]
   | false=>
     obtain⟨q,s,n1,n2,n3,n4,n5⟩:=nameD_eq hK
     have y6:=y5.trans (Ext.new y5.wf (.cells 9 false [.str [97],.str [91],.str [93],.str [60,60],.str [62,62],.str [120,45,49],.str [61]]))
     have hm6:=(Ext.new y5.wf (.cells 9 false [.str [97],.str [91],.str [93],.str [60,60],.str [62,62],.str [120,45,49],.str [61]])).get y5.wf hm5
     have hmne:¬s5.nx=m:=by have:=y5.wf.lt _ _ hm5;omega
     have hbne:¬s5.nx=b:=by have:=y5.wf.lt _ _ gb5;omega
     have hw:wrCells ((s5.nx,AObj.cells 9 false [.str [97],.str [91],.str [93],.str [60,60],.str [62,62],.str [120,45,49],.str [61]])::s5.h) m 2 [.str (nameD K)]=some (hset ((s5.nx,AObj.cells 9 false [.str [97],.str [91],.str [93],.str [60,60],.str [62,62],.str [120,45,49],.str [61]])::s5.h) m (.cells 134 true [.int .i64 3,.int .i64 0,.str (nameD K)])):=wr_cells hm6 rfl (by simp)
     have y7:=y6.setNew hm6 (o:= .cells 134 true [.int .i64 3,.int .i64 0,.str (nameD K)]) (by omega)
     have hm7:=hget_hset_self (o:= .cells 134 true [.int .i64 3,.int .i64 0,.str (nameD K)]) hm6
     generalize nameD K=W at*
     have:s=0∨s=1∨s=2∨s=3∨s=4∨s=5∨s=6:=by omega
     rcases this with rfl | rfl | rfl | rfl | rfl | rfl | rfl <;> simp at n5 <;> subst n5 <;>
      simp[go_sem,RO.run,NO.run,WO.run,g1,g2,g3,g6,hrt,gb5,hbne,n1,n2,n3,rdCell,hget_cons,hw,y7,hm7]
  ·rcases hk with rfl | rfl | rfl
   ·exact absurd rfl h3
   ·simp[go_sem,g1,g2,g3,g6,y1,hm]
   ·simp[go_sem,g1,g2,g3,g6,y1,hm]
 rintro _ e5 s5 ⟨rfl,y5,g2,g6,hm5⟩
 rw[kSeq_norm]
 have gr5:=y5.get' hrl hr
 have hw:=wr_all (vs:=[.int .i64 (k:Int),.int .i64 0,.str (if k=3∧rightT 3 0 R=false then nameD K else R)]) gr5 rfl rfl
 have z:=(hx0.trans y5).setNew gr5 (o:= .cells 134 true [.int .i64 (k:Int),.int .i64 0,.str (if k=3∧rightT 3 0 R=false then nameD K else R)]) hr0
 have hq:=hget_hset_self (o:= .cells 134 true [.int .i64 (k:Int),.int .i64 0,.str (if k=3∧rightT 3 0 R=false then nameD K else R)]) gr5
 generalize (if k=3∧rightT 3 0 R=false then nameD K else R)=W at*
 simp only[tb,B.chaseref03_Draft_Token,ab_seq]
 simp[go_sem,RO.run,WO.run,g2,g6,tok_rd hm5,hw,z,hq]
end Go.Ev

/- The token of a draft; LexTexts. -/
namespace Go.Ev
open Go
variable {T : Tab} {st : St}
theorem token_tells (H:B.H_chaseref03_Draft_Token T) (hwf:st.Wf) {K:Nat} {N:Int} {t:List UInt8} (hK:K<256) (hN0: -2147483648≤N) (hN1:N≤2147483647) (ht:t.length<9223372036854775808):
  Tells T st (.fn 127 [] []) [.agg [.int .u8 (K:Int),.int .i32 N,.str t]] (.agg [.int .i64 (draftT K N t).1,.int .i64 (draftT K N t).2.1,.str (draftT K N t).2.2]):=by
 refine tells_of H.e H.f rfl ?_
 have hxa:=Ext.new hwf (.cells 205 true [.int .u8 (K:Int),.int .i32 N,.str t])
 have hx:=hxa.trans (Ext.new hxa.wf (.cells 134 true [.int .i64 0,.int .i64 0,.str []]))
 simp only[Nat.add_assoc,Nat.reduceAdd]at hx
 have hb:hget ((st.nx+1,AObj.cells 134 true [.int .i64 0,.int .i64 0,.str []])::(st.nx,.cells 205 true [.int .u8 (K:Int),.int .i32 N,.str t])::st.h) st.nx=some (.cells 205 true [.int .u8 (K:Int),.int .i32 N,.str t]):=by simp[hget_cons]
 have hr:hget ((st.nx+1,AObj.cells 134 true [.int .i64 0,.int .i64 0,.str []])::(st.nx,.cells 205 true [.int .u8 (K:Int),.int .i32 N,.str t])::st.h) (st.nx+1)=some (.cells 134 true [.int .i64 0,.int .i64 0,.str []]):=by simp[hget_cons]
 refine cut (c:=tb 0) rfl (by intro l;simp[tb,B.chaseref03_Draft_Token,ab_seq]) (fun x e' s'=>x= .norm∧s'=⟨(st.nx+1,.cells 134 true [.int .i64 0,.int .i64 0,.str []])::(st.nx,.cells 205 true [.int .u8 (K:Int),.int .i32 N,.str t])::st.h,st.nx+2⟩∧eget e' 1= .ptr st.nx 0∧eget e' 2= .ptr (st.nx+1) 0) ?_ ?_
 ·simp only[tb,B.chaseref03_Draft_Token,ab_seq]
  simp[go_sem,NO.run,AV.nb,Nat.add_assoc]
 rintro _ e1 s1 ⟨rfl,hst,g1,g2⟩
 rw[kSeq_norm,hst]
 clear hst
 have hr0:st.nx≤st.nx+1:=Nat.le_succ _
 generalize hS:(⟨(st.nx+1,.cells 134 true [.int .i64 0,.int .i64 0,.str []])::(st.nx,.cells 205 true [.int .u8 (K:Int),.int .i32 N,.str t])::st.h,st.nx+2⟩:St)=sA at hx⊢
 rw[show (st.nx+1,AObj.cells 134 true [.int .i64 0,.int .i64 0,.str []])::(st.nx,.cells 205 true [.int .u8 (K:Int),.int .i32 N,.str t])::st.h=sA.h by rw[←hS]]at hb hr
 clear hS hxa
 generalize st.nx+1=r at*
 obtain⟨b,hbn⟩:∃b,b=st.nx:=⟨_,rfl⟩
 rw[←hbn]at hb g1
 clear hbn
 have hm:(K:Int).tmod 8=((K % 8:Nat):Int):=by rw[Int.tmod_eq_emod_of_nonneg (by omega)];omega
 have hlt:K % 8<8:=Nat.mod_lt _ (by omega)
 refine cut (c:=tb 1) rfl (by intro l;simp[tb,B.chaseref03_Draft_Token,ab_seq]) (fun x e' s'=>x= .norm∧s'=sA∧eget e' 1= .ptr b 0∧eget e' 2= .ptr r 0∧eget e' 3= .int .i64 ((1+K % 8:Nat):Int)) ?_ ?_
 ·have w1:IntKind.i64.wrap ((K % 8:Nat):Int)=((K % 8:Nat):Int):=wrap64' (by omega) (by omega)
  have w2:IntKind.i64.wrap (1+((K % 8:Nat):Int))=1+((K % 8:Nat):Int):=wrap64' (by omega) (by omega)
  have hk0:=rd_at (k:=0) hb rfl
  generalize K % 8=q at*
  simp only[tb,B.chaseref03_Draft_Token,ab_seq]
  simp[go_sem,RO.run,g1,g2,hk0,hm,w1,w2]
 rintro _ e2 s2 ⟨rfl,hst,g1,g2,g3⟩
 rw[kSeq_norm,hst]
 clear hst
 have h1:=rd_at (k:=1) hb rfl
 have h2:=rd_at (k:=2) hb rfl
 have wN:IntKind.i64.wrap N=N:=wrap64' (by omega) (by omega)
 have hlen:((min t.length 60:Nat):Int)=if(60:Int)<t.length then 60 else(t.length:Int):=by split <;> omega
 have hsub:asubS t none (some (.int .i64 ((min t.length 60:Nat):Int)))=some (.str (t.take 60)):=by
  rw[asubS_to (by omega) (by omega)];simp[Nat.min_comm]
 obtain⟨OUT,hO⟩:∃O,O=draftT K N t:=⟨_,rfl⟩
 rw[←hO]
 have hw:=fun(a c:Int) (d:List UInt8)=>tok_wr (k':=a) (n':=c) (t':=d) hr
 have hset':=fun(a c:Int) (d:List UInt8)=>hx.setNew hr (o:= .cells 134 true [.int .i64 a,.int .i64 c,.str d]) hr0
 have hself:=fun(a c:Int) (d:List UInt8)=>hget_hset_self (o:= .cells 134 true [.int .i64 a,.int .i64 c,.str d]) hr
 refine Res.mono (Q:=fun x e' s'=>x= .ret∧Ext st s'∧eget e' 2= .ptr r 0∧hget s'.h r=some (.cells 134 true [.int .i64 OUT.1,.int .i64 OUT.2.1,.str OUT.2.2])) ?_ ?_
 rotate_left
 ·rintro x e' s' ⟨rfl,x1,k2,kr⟩
  refine⟨.inr rfl,?_⟩
  simp[B.chaseref03_Draft_Token,fresults,resVals,resVal,go_sem,k2,RO.run,tok_rd kr,x1]
 refine cut (c:=tb 2) rfl (by intro l;simp[tb,B.chaseref03_Draft_Token,ab_seq]) (fun x e' s'=>(x= .ret∧Ext st s'∧eget e' 2= .ptr r 0∧hget s'.h r=some (.cells 134 true [.int .i64 OUT.1,.int .i64 OUT.2.1,.str OUT.2.2]))∨((K % 8=2∨K % 8=3∨K % 8=4)∧x= .norm∧s'=sA∧eget e' 1= .ptr b 0∧eget e' 2= .ptr r 0∧eget e' 3= .int .i64 ((1+K % 8:Nat):Int))) ?_ ?_
 ·unfold draftT at hO
  simp only[tb,B.chaseref03_Draft_Token,ab_seq]
  have hq:K % 8=0∨K % 8=1∨K % 8=2∨K % 8=3∨K % 8=4∨K % 8=5∨K % 8=6∨K % 8=7:=by omega
  rcases hq with hq | hq | hq | hq | hq | hq | hq | hq <;> rw[hq]at hO g3⊢
  ·simp at hO
   subst hO
   simp[go_sem,RO.run,WO.run,g1,g2,g3,h1,h2,wN,hw,hset',hself]
  ·simp at hO
   subst hO
   simp[go_sem,RO.run,WO.run,g1,g2,g3,h1,h2,wN,hw,hset',hself]
  ·simp[go_sem,RO.run,WO.run,g1,g2,g3]
  ·simp[go_sem,RO.run,WO.run,g1,g2,g3]
  ·simp[go_sem,RO.run,WO.run,g1,g2,g3]
  ·simp at hO
   subst hO
   rw[hlen]at hsub
   simp[go_sem,RO.run,WO.run,g1,g2,g3,h1,h2,hsub,hw,hset',hself]
  ·simp at hO
   subst hO
   simp[go_sem,RO.run,WO.run,g1,g2,g3,hw,hset',hself]
  ·simp at hO
   subst hO
   simp[go_sem,RO.run,WO.run,g1,g2,g3,hw,hset',hself]
 rintro x e3 s3 (⟨rfl,h⟩ | ⟨hq,rfl,hst,g1,g2,g3⟩)
 ·exact⟨rfl,h⟩
 rw[kSeq_norm,hst]
 refine(token_tail H hK ht hx hb hr hr0 (k:=1+K % 8) (by omega) g1 g2 g3).mono ?_
 rintro x e' s' ⟨rfl,x1,k2,kr⟩
 refine⟨rfl,x1,k2,?_⟩
 have hOO:OUT=(((1+K % 8:Nat):Int),0,if 1+K % 8=3∧rightT 3 0 (regD t)=false then nameD K else regD t):=by
  rw[hO]
  unfold draftT
  rw[if_neg (by omega),if_neg (by omega),if_neg (by omega)]
  by_cases hc:K % 8=2∧rightT 3 0 (regD t)=false
  ·rw[if_pos hc,if_pos ⟨by omega,hc.2⟩,hc.1];rfl
  ·rw[if_neg hc,if_neg (fun h=>hc ⟨by omega,h.2⟩)];simp
 rw[hOO]
 exact kr
end Go.Ev

/- LexTexts: the law told. -/
namespace Go.Ev
open Go
variable {T : Tab} {st : St}
theorem draft_len (K:Nat) (N:Int) (t:List UInt8):(draftT K N t).2.2.length≤60:=by
 have h1:(regD t).length≤20:=by
  unfold regD
  exact Nat.le_trans (List.length_filter_le _ _) (by rw[List.length_take];omega)
 have h2:(nameD K).length≤3:=by unfold nameD;split <;> simp
 unfold draftT
 split
 ·simp
 ·split
  ·simp;omega
  ·split
   ·simp
   ·split
    ·simp only;omega
    ·simp only;omega
end Go.Ev

/- Structs of two numbers and a text among the arguments; a table of the library among the objects. -/
namespace Go.Ev
open Go Go.RowKit Go.ChangeShapes Go.WideShapes Go.Deep Go.Joins
def powAV:List AV:=Lib.pow10Tab.map fun z=> .int .u64 z
theorem vrs_ints {X:Cx} {N:Nu}:∀zs:List Int,VRs X N (zs.map fun z=> .int .u64 z) (zs.map fun z=>Value.int .u64 z)
 | []=>rfl
 | z::zs=>⟨_,_,rfl,rfl,vrs_ints zs⟩
theorem wf_i32 {n:Int} (h:(Lit.int .i32 n).wf=true): -2147483648≤n∧n≤2147483647:=by
 simp[Lit.wf,IntKind.min,IntKind.max,IntKind.signed,IntKind.bits]at h
 omega
theorem pow_of_laid {P:Program} {W:World} {x y:String×DataW Unit} {name:String} {d:DataW Unit} {g:Nat} {t e:TypeId} {n:Nat} (hp:laidMetH P [x,y,(name,d)] W→laidMet P [x,y,(name,d)] W)
  (hd:d=Lib.tabData .u64 Lib.pow10Tab) (hg:P.globalNamed name=some g) (hty:(P.globals[g]?).map (·.type)=some t) (ht:P.underlying t=some (.array n e)) (he:P.underlying e=some (.int .u64)) (hce:P.cellsOf e=1) (hct:P.cellsOf t=n)
  (h:laidMetH P [x,y,(name,d)] W):Lib.TabIs P W name .u64 Lib.pow10Tab:=by
 subst hd
 exact Lib.tabIs_of_head hg hty ht he hce hct (laidMet.tail (laidMet.tail (hp h)))
end Go.Ev

/- strings.Join as an entry of the table. -/
namespace Go.Ev
open Go Go.RowKit
variable {X : Cx} {D : ChkD} {T : Tab} {st : St}
namespace B
def strsOf:List AV→Option (List (List UInt8))
 | []=>some []
 | .str s::r=>(match strsOf r with | some l=>some (s::l) | none=>none)
 | _=>none
def E_strings_Join:Entry:=fun args st=>match args with
 | [.nilslice,.str sep]=>some (.str [],st)
 | [.slice n o len cp,.str sep]=>
   match rdCells st.h n o len with
   | some cs=>
     match strsOf cs with
     | some xs=>if 1≤len∧len≤140737488355328∧(Lib.join xs sep).length≤140737488355328 then some (.str (Lib.join xs sep),st)else none
     | none=>none
   | none=>none
 | _=>none
end B
theorem vrs_strs {N:Nu}:∀{cs:List AV} {xs:List (List UInt8)} {us:List Value},B.strsOf cs=some xs→VRs X N cs us→us=xs.map fun x=>Value.string ⟨x.toArray⟩
 | [],xs,us,h,hv=>by simp only[B.strsOf,Option.some.injEq]at h;subst h;exact hv
 | c::cs,xs,us,h,hv=>by
   cases c <;> simp only[B.strsOf]at h <;> try (cases h;done)
   split at h
   ·rename_i l hl
    cases h
    obtain⟨u,us,rfl,h0,h1⟩:=hv
    cases h0
    rw[vrs_strs hl h1];rfl
   ·cases h
theorem join_entry {f:Nat} (hb:bodyB X.P (X.φ f)=true)
  (h0:∀(sep:ByteArray) (w:World),Calls X.P (X.φ f) #[.slice none 0 0,.string sep] w fun e w'=>e= .returned (.string ⟨#[]⟩)∧w'=w)
  (h:∀(bk o c:Nat) (xs:List ByteArray) (sep:ByteArray) (w:World),(∀(j:Nat) x,xs[j]? =some x→w.cell? ⟨bk,o+j,none⟩=some (.string x))→bk<w.heap.size→xs.length≤140737488355328→xs.length≤c→
    (Lib.join (xs.map (·.data.toList)) sep.data.toList).length≤140737488355328→Calls X.P (X.φ f) #[.slice (some ⟨bk,o,none⟩) xs.length c,.string sep] w fun e w'=>e= .returned (.string ⟨(Lib.join (xs.map (·.data.toList)) sep.data.toList).toArray⟩)∧Below w.heap.size w w'):EntryOK D X f B.E_strings_Join:=by
 refine entry_of_calls2 hb fun args st v st' hF=> ?_
 unfold B.E_strings_Join at hF
 split at hF
 ·cases hF
  refine⟨rfl,fun N us w hr hus=> ?_⟩
  obtain⟨u0,us0,rfl,h00,u1,us1,rfl,h1,rfl⟩:=hus
  cases h00
  cases h1
  exact⟨_,rfl,(h0 _ w).mono fun e w' ⟨a,b⟩=>⟨by simpa using a,by subst b;exact Below.refl _ _⟩⟩
 ·rename_i n o len cp sep
  split at hF
  case h_2=>cases hF
  rename_i cs hcs
  split at hF
  case h_2=>cases hF
  rename_i xs hxs
  split at hF
  case isFalse=>cases hF
  rename_i hc
  cases hF
  refine⟨rfl,fun N us w hr hus=> ?_⟩
  obtain⟨u0,us0,rfl,h00,u1,us1,rfl,h1,rfl⟩:=hus
  cases h1
  obtain⟨a,cpv,ha,rfl,hle,_⟩:=h00
  obtain⟨a',us,ha',hv,hl,hcell⟩:=rdCells_sound hr hcs
  rw[ha]at ha'
  cases ha'
  have e:=vrs_strs hxs hv
  subst e
  have hlen:xs.length=len:=by simpa using hl
  have hget:∀(j:Nat) (x:ByteArray),(xs.map fun x=>(⟨x.toArray⟩:ByteArray))[j]? =some x→w.cell? ⟨a.block,a.off+o+j,none⟩=some (.string x):=by
   intro j x hj
   rw[List.getElem?_map]at hj
   cases hx:xs[j]? with
   | none=>rw[hx]at hj;cases hj
   | some y=>
     rw[hx]at hj
     cases hj
     have:=hcell j (.string ⟨y.toArray⟩) (by rw[List.getElem?_map,hx];rfl)
     rw[Nat.add_assoc]
     exact this
  have hbk:a.block<w.heap.size:=by
   have hx0:∃y,xs[0]? =some y:=⟨_,List.getElem?_eq_getElem (by omega)⟩
   obtain⟨y,hy⟩:=hx0
   have:=hcell 0 (.string ⟨y.toArray⟩) (by rw[List.getElem?_map,hy];rfl)
   unfold World.cell? at this
   cases hh:w.heap[a.block]? with
   | none=>simp[hh]at this
   | some ob=>exact(Array.getElem?_eq_some_iff.1 hh).1
  have hmm:(xs.map fun x=>(⟨x.toArray⟩:ByteArray)).map (·.data.toList)=xs:=by simp[Function.comp_def]
  have hcall:=h a.block (a.off+o) cpv (xs.map fun x=>(⟨x.toArray⟩:ByteArray)) ⟨sep.toArray⟩ w hget hbk (by simp;omega) (by simp;omega) (by rw[hmm];simpa using hc.2.2)
  rw[hmm]at hcall
  rw[List.length_map,hlen]at hcall
  exact⟨_,rfl,hcall.mono fun e w' ⟨a,b⟩=>⟨by simpa using a,b⟩⟩
 ·cases hF
end Go.Ev
