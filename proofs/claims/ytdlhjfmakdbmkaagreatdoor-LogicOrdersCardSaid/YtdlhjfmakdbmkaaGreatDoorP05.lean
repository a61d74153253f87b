/- Reals parsed. -/
import Derived.Test.YtdlhjfmakdbmkaaGreatDoorP04
import Derived.Lib.RuneBytes
import Derived.Lib.IndexLaws
import Derived.Laws.RangeAny
import Derived.Test.YtdlhjfmakdbmkaaGreatDoorP03
import Derived.Lib.SmallJoins
import Derived.Deep.Slices
import Derived.OpenShut
import Derived.Stop.LaidErr
import Derived.Lib.LaidTab
import Derived.SizedLaws
import Derived.Lib.Join
import Derived.Lib.Small
import Derived.Lib.Strings
import Derived.Lib.Case
set_option linter.unusedSimpArgs false
set_option linter.unusedVariables false
set_option linter.unusedSectionVars false
namespace Go.Ev
open Go
variable {T : Tab} {st : St}
theorem Zpk (H:B.Ii T) (hwf:st.Wf) {n:Int}:Z9 T st (.fn 110 [] []) [.int .i64 n] (.bool (decide (-2147483648≤n) && decide (n≤2147483648))):=by
 refine Zm H.e H.f rfl ?_
 by_cases h1: -2147483648≤n
 ·simp[B.Rc,go_sem,h1,Ext.refl hwf]
 ·simp[B.Rc,go_sem,h1,Ext.refl hwf]
def Ms:Nat→List Nat→Nat
 | n,[]=>n
 | n,d::r=>if 2147483648<10*n+d then 10*n+d else Ms (10*n+d) r
def Zeb (l:List Nat) (pt:Int):List Nat:=(List.range pt.toNat).map fun i=>l.getD i 0
def SlR (h:Heap) (v:AV) (l:List Nat):Prop:=(v= .Zc∧l=[])∨∃n c,v= .slice n 0 l.length c∧∀i,i<l.length→Q5 h n i=some (.int .u8 (l.getD i 0:Nat))
theorem Sl.slR {s:St} {v:AV} {l:List Nat} (a:Sl s v 5 1 l.length (Xy l)):SlR s.h v l:=by
 rcases a.view with ⟨h1,h2,h3⟩ | ⟨n,c,h1,h2⟩
 ·exact .inl ⟨h1,List.length_eq_zero_iff.1 h2⟩
 ·refine .inr ⟨n,c,h1,fun i hi=> ?_⟩
  rw[h2 i (by rw[Zkn];exact hi)]
  simp[Xy,List.getElem?_eq_getElem hi]
theorem Ztl {v:AV} {l:List Nat} {pt:Int} (hd:∀i,l.getD i 0<10) (hll:l.length<9223372036854775807) (hpt:pt≤9223372036854775807) (st0:St) (hwf:st0.Wf) (hv:SlR st0.h v l):
  ∀(m i n:Nat) (e:Env),(pt - i).toNat=m→(i:Int)≤pt→n≤2147483648→Zl e 0=v→Zl e 1= .int .i64 pt→Zl e 5= .int .i64 n→Zl e 6= .int .i64 i→
  Res (run T (.loop B.Yd) e st0) fun x e' s'=>s'=st0∧((x= .exit 0∧Zl e' 5= .int .i64 (Ms n ((List.range' i m).map fun i=>l.getD i 0)))∨(x= .ret∧Zl e' 4= .int .i64 (Ms n ((List.range' i m).map fun i=>l.getD i 0)))):=by
 intro m
 induction m with
 | zero=>
   intro i n e hi hle hn g0 g1 g5 g6
   have hil:¬(i:Int)<pt:=by omega
   rw[Zs]
   simp[B.Yd,go_sem,g0,g1,g5,g6,hil,Ms]
 | succ m ih=>
   intro i n e hi hle hn g0 g1 g5 g6
   have hil:(i:Int)<pt:=by omega
   have hd':=hd i
   rw[List.range'_succ]
   generalize hdi:l.getD i 0=d at hd'
   have e1:IntKind.i64.wrap (10*(n:Int))=10*n:=Zo (by omega) (by omega)
   have e2:IntKind.i64.wrap (10*(n:Int)+d)=((10*n+d:Nat):Int):=by rw[Zo (by omega) (by omega)];omega
   have e3:IntKind.i64.wrap (d:Int)=d:=Zo (by omega) (by omega)
   have hd0:l.length≤i→d=0:=fun h=>by rw[←hdi,List.getD_eq_getElem?_getD,List.getElem?_eq_none h];rfl
   have big:(2147483648<(10*(n:Int)+d))↔2147483648<10*n+d:=by omega
   simp only[List.map_cons,hdi,Ms]
   rw[Zs]
   by_cases hin:i<l.length
   ·have hin':(i:Int)<l.length:=by omega
    rcases hv with ⟨_,rfl⟩ | ⟨nn,c,rfl,hr⟩
    ·simp at hin
    have hri:=hr i hin
    rw[hdi]at hri
    by_cases hb:2147483648<10*n+d
    ·have hb':2147483648<10*(n:Int)+d:=by omega
     simp[B.Yd,go_sem,g0,g1,g5,g6,hil,hin',RO.run,hri,e1,e2,e3,hb,hb']
    ·have hb':¬2147483648<10*(n:Int)+d:=by omega
     simp[B.Yd,go_sem,g0,g1,g5,g6,hil,hin',RO.run,hri,e1,e2,e3,hb,hb']
     refine(ih (i+1) (10*n+d) _ (by omega) (by omega) (by omega) ?_ ?_ ?_ ?_).mono fun x e' s' h=>h
     ·simp[go_sem]
     ·simp[go_sem]
     ·simp[go_sem]
     ·simp[go_sem];rw[Zo (by omega) (by omega)]
   ·have hd1:=hd0 (by omega)
    subst hd1
    simp only[Nat.add_zero,Int.natCast_zero,Int.add_zero]at e2 big⊢
    have hin':¬(i:Int)<l.length:=by omega
    rcases hv with ⟨rfl,rfl⟩ | ⟨nn,c,rfl,hr⟩
    ·have hi0:¬(i:Int)<0:=by omega
     by_cases hb:2147483648<10*n
     ·have hb':2147483648<10*(n:Int):=by omega
      simp[B.Yd,go_sem,g0,g1,g5,g6,hil,hi0,e1,hb,hb']
     ·have hb':¬2147483648<10*(n:Int):=by omega
      simp[B.Yd,go_sem,g0,g1,g5,g6,hil,hi0,e1,hb,hb']
      refine(ih (i+1) (10*n) _ (by omega) (by omega) (by omega) ?_ ?_ ?_ ?_).mono fun x e' s' h=>by simpa using h
      ·simp[go_sem]
      ·simp[go_sem]
      ·simp[go_sem]
      ·simp[go_sem];rw[Zo (by omega) (by omega)]
    ·by_cases hb:2147483648<10*n
     ·have hb':2147483648<10*(n:Int):=by omega
      simp[B.Yd,go_sem,g0,g1,g5,g6,hil,hin',e1,hb,hb']
     ·have hb':¬2147483648<10*(n:Int):=by omega
      simp[B.Yd,go_sem,g0,g1,g5,g6,hil,hin',e1,hb,hb']
      refine(ih (i+1) (10*n) _ (by omega) (by omega) (by omega) ?_ ?_ ?_ ?_).mono fun x e' s' h=>h
      ·simp[go_sem]
      ·simp[go_sem]
      ·simp[go_sem]
      ·simp[go_sem];rw[Zo (by omega) (by omega)]
theorem Zqu (H:B.O0 T) (hwf:st.Wf) {v:AV} {l:List Nat} {pt:Int} (hd:∀i,l.getD i 0<10) (hll:l.length<9223372036854775807) (hpt:pt≤9223372036854775807) (hv:SlR st.h v l):
  Z9 T st (.fn 114 [] []) [v,.int .i64 pt] (.int .i64 (Ms 0 (Zeb l pt))):=by
 refine Zm H.e H.f rfl ?_
 have hI:Zeb l pt=(List.range' 0 pt.toNat).map fun i=>l.getD i 0:=by rw[Zeb,List.range_eq_range']
 by_cases h0:0≤pt
 ·simp[B.Rq,go_sem]
  refine(Ztl hd hll hpt st hwf hv pt.toNat 0 0 _ (by omega) (by omega) (by omega) ?_ ?_ ?_ ?_).mono ?_
  ·simp[go_sem]
  ·simp[go_sem]
  ·simp[go_sem]
  ·simp[go_sem]
  ·rw[hI]
   rintro x e s' ⟨rfl,⟨rfl,h⟩ | ⟨rfl,h⟩⟩
   ·simp[go_sem,h,Ext.refl hwf]
   ·simp[go_sem,h,Ext.refl hwf]
 ·have hz:Zeb l pt=[]:=by rw[hI,show pt.toNat=0 by omega];rfl
  rw[hz]
  have hn:¬0<pt:=by omega
  simp[B.Rq,go_sem]
  rw[Zs]
  simp[B.Yd,go_sem,hn,Ms,Ext.refl hwf]
def Iq (l:List Nat) (pt:Int):List Nat:=List.replicate (-pt).toNat 0++l.drop pt.toNat
theorem SlR.ext {st st':St} {v:AV} {l:List Nat} (h:SlR st.h v l) (hw:st.Wf) (x:Ext st st'):SlR st'.h v l:=by
 rcases h with h | ⟨n,c,h1,h2⟩
 ·exact .inl h
 ·refine .inr ⟨n,c,h1,fun i hi=> ?_⟩
  have h3:=h2 i hi
  have:∃o,Zh st.h n=some o:=by
   unfold Q5 at h3
   split at h3
   ·exact⟨_,by assumption⟩
   ·exact⟨_,by assumption⟩
   ·exact⟨_,by assumption⟩
   ·exact⟨_,by assumption⟩
   ·cases h3
  obtain⟨o,ho⟩:=this
  have h4:=x.get hw ho
  unfold Q5 at h3⊢
  rw[h4]
  rw[ho]at h3
  exact h3
def Zc1 (l:List Nat) (pt i:Int):List Nat:=List.replicate (-i).toNat 0++l.drop (max i pt).toNat
theorem Zlr {v0:AV} {l:List Nat} {pt:Int} (hll:l.length<1000000000) (hpt: -1000000000≤pt) (st0:St) (hwf0:st0.Wf) (hv0:SlR st0.h v0 l):
  ∀(m:Nat) (i:Int) (e:Env) (st1:St) (v:AV) (acc:List Nat),(l.length - i).toNat=m→min pt 0≤i→i≤l.length→Ext st0 st1→Sl st1 v 5 1 acc.length (Xy acc)→Dv [] st0 v→NK v→(acc.length:Int)≤i - min pt 0→
   Zl e 0=v0→Zl e 1= .int .i64 pt→Zl e 5=v→Zl e 6= .int .i64 i→
  Res (run T (.loop B.K7) e st1) fun x e' s'=>x= .exit 0∧Ext st0 s'∧Sl s' (Zl e' 5) 5 1 (acc++Zc1 l pt i).length (Xy (acc++Zc1 l pt i))∧Dv [] st0 (Zl e' 5)∧NK (Zl e' 5):=by
 intro m
 induction m with
 | zero=>
   intro i e st1 v acc hi hlo hle hx hv hm hnk hacc g0 g1 g5 g6
   have hil:i=l.length:=by omega
   subst hil
   have hlen:∃k:Nat,k=l.length∧(v0= .Zc∨∃n c,v0= .slice n 0 k c):=by
    rcases hv0 with ⟨h1,rfl⟩ | ⟨n,c,h1,_⟩
    ·exact⟨0,rfl,.inl h1⟩
    ·exact⟨_,rfl,.inr ⟨n,c,h1⟩⟩
   have hr:Zc1 l pt l.length=[]:=by
    unfold Zc1
    rw[show (-(l.length:Int)).toNat=0 by omega,List.drop_of_length_le (by omega)]
    rfl
   rw[hr,List.append_nil,Zs]
   rcases hv0 with ⟨rfl,rfl⟩ | ⟨n,c,rfl,_⟩
   ·simp[B.K7,go_sem,g0,g1,g5,g6]
    exact⟨hx,hv,hm,hnk⟩
   ·simp[B.K7,go_sem,g0,g1,g5,g6]
    exact⟨hx,hv,hm,hnk⟩
 | succ m ih=>
   intro i e st1 v acc hi hlo hle hx hv hm hnk hacc g0 g1 g5 g6
   have hil:i<l.length:=by omega
   have hge:∀n∈v.nms,st0.nx≤n:=fun n hn=>by
    rcases hm n hn with h | h
    ·cases h
    ·exact h
   have e1:IntKind.i64.wrap (i+1)=i+1:=Zo (by omega) (by omega)
   have push:∀(y:Nat) (K:AV→St→Prop),(∀v' s,Ext st0 s→Sl s v' 5 1 (acc++[y]).length (Xy (acc++[y]))→Dv [] st0 v'→NK v'→K v' s)→
     Qt (Vf 5 1 1 ⟨(st1.nx,.cells 5 false [.int .u8 (y:Int)])::st1.h,st1.nx+1⟩ v (.slice st1.nx 0 1 (.known 1))) K:=by
    intro y K hK
    have h1:=Sl.push (b:=1) (y:= .int .u8 (y:Int)) (st0:=st1) (Frm.refl hx.wf v.nms) (fun n h=> .inl h) hv rfl (by omega) (by omega)
     (Q:=fun v' s=>Sl s v' 5 1 (acc.length+1) (Xy acc++[.int .u8 (y:Int)])∧Frm v.nms st1 s∧Dv v.nms st1 v') (fun v' s a b c _=>⟨a,b,c⟩)
    refine(h1.Zxm (fun _ _ h=>C4 h hnk)).mono ?_
    rintro v' s ⟨⟨a,b,c⟩,d⟩
    refine hK v' s ((hx.fr v.nms).trans b (fun n h=> .inl h) |>.ext hge) (by rw[Zm0];simpa using a) (fun n hn=> ?_) d
    rcases c n hn with h | h
    ·exact .inr (hge n h)
    ·exact .inr (Nat.le_trans hx.nx h)
   rw[Zs]
   have lenE:∃k:Nat,k=l.length:=⟨_,rfl⟩
   by_cases hneg:i<0
   ·have hrem:Zc1 l pt i=0::Zc1 l pt (i+1):=by
     unfold Zc1
     rw[show (-i).toNat=(-(i+1)).toNat+1 by omega,List.replicate_succ,show (max i pt).toNat=(max (i+1) pt).toNat by omega]
     rfl
    rcases hv0 with ⟨rfl,rfl⟩ | ⟨n,c,rfl,hr⟩
    ·simp at hil
     simp[B.K7,go_sem,g0,g1,g5,g6,hneg,NO.run,Bn]
     refine push 0 _ fun v' s a1 a2 a3 a4=> ?_
     simp[go_sem,e1]
     refine(ih (i+1) _ s v' (acc++[0]) (by omega) (by omega) (by simp;omega) a1 a2 a3 a4 (by simp;omega) ?_ ?_ ?_ ?_).mono ?_
     ·simp[go_sem]
     ·simp[go_sem]
     ·simp[go_sem]
     ·simp[go_sem]
     ·rintro x e' s' ⟨rfl,b1,b2,b3,b4⟩
      rw[hrem]
      exact⟨rfl,b1,by simpa using b2,b3,b4⟩
    ·simp[B.K7,go_sem,g0,g1,g5,g6,hneg,hil,NO.run,Bn]
     refine push 0 _ fun v' s a1 a2 a3 a4=> ?_
     simp[go_sem,e1]
     refine(ih (i+1) _ s v' (acc++[0]) (by omega) (by omega) (by omega) a1 a2 a3 a4 (by simp;omega) ?_ ?_ ?_ ?_).mono ?_
     ·simp[go_sem]
     ·simp[go_sem]
     ·simp[go_sem]
     ·simp[go_sem]
     ·rintro x e' s' ⟨rfl,b1,b2,b3,b4⟩
      rw[hrem]
      exact⟨rfl,b1,by simpa using b2,b3,b4⟩
   ·obtain⟨j,rfl⟩:=Int.eq_ofNat_of_zero_le (show 0≤i by omega)
    have hjl:j<l.length:=by omega
    have hn0:¬(j:Int)<0:=by omega
    have hv1:=hv0.ext hwf0 hx
    rcases hv0 with ⟨rfl,rfl⟩ | ⟨n,c,rfl,_⟩
    ·simp at hjl
    have hrj:Q5 st1.h n j=some (.int .u8 (l.getD j 0:Nat)):=by
     rcases hv1 with ⟨h,_⟩ | ⟨n',c',h,hr⟩
     ·cases h
     ·cases h;exact hr j hjl
    by_cases hp:pt≤(j:Int)
    ·have hrem:Zc1 l pt j=l.getD j 0::Zc1 l pt (j+1):=by
      unfold Zc1
      rw[show (-(j:Int)).toNat=0 by omega,show (-((j:Int)+1)).toNat=0 by omega,show (max (j:Int) pt).toNat=j by omega,show (max ((j:Int)+1) pt).toNat=j+1 by omega,
       List.drop_eq_getElem_cons hjl]
      simp[List.getElem?_eq_getElem hjl]
     generalize hy:l.getD j 0=y at hrj hrem
     simp[B.K7,go_sem,g0,g1,g5,g6,hil,hn0,hp,NO.run,RO.run,hrj,Bn]
     refine push y _ fun v' s a1 a2 a3 a4=> ?_
     simp[go_sem,e1]
     refine(ih (j+1) _ s v' (acc++[y]) (by omega) (by omega) (by omega) a1 a2 a3 a4 (by simp;omega) ?_ ?_ ?_ ?_).mono ?_
     ·simp[go_sem]
     ·simp[go_sem]
     ·simp[go_sem]
     ·simp[go_sem]
     ·rintro x e' s' ⟨rfl,b1,b2,b3,b4⟩
      rw[hrem]
      exact⟨rfl,b1,by simpa using b2,b3,b4⟩
    ·have hrem:Zc1 l pt j=Zc1 l pt (j+1):=by
      unfold Zc1
      rw[show (-(j:Int)).toNat=0 by omega,show (-((j:Int)+1)).toNat=0 by omega,show (max (j:Int) pt).toNat=(max ((j:Int)+1) pt).toNat by omega]
     simp[B.K7,go_sem,g0,g1,g5,g6,hil,hn0,hp,e1]
     rw[hrem]
     refine(ih (j+1) _ st1 v acc (by omega) (by omega) (by omega) hx hv hm hnk (by omega) ?_ ?_ ?_ ?_).mono ?_
     ·simp[go_sem]
     ·simp[go_sem]
     ·simp[go_sem]
     ·simp[go_sem]
     ·rintro x e' s' ⟨rfl,b1,b2,b3,b4⟩
      exact⟨rfl,b1,by simpa using b2,b3,b4⟩
theorem Zn7 (H:B.Dc T) (hwf:st.Wf) {v:AV} {l:List Nat} {pt:Int} (hll:l.length<1000000000) (hpt: -1000000000≤pt) (hv:SlR st.h v l):
  Qt (call T (.fn 115 [] []) [v,.int .i64 pt] st) fun v' s'=>Ext st s'∧Sl s' v' 5 1 (Iq l pt).length (Xy (Iq l pt))∧Dv [] st v'∧NK v':=by
 refine Zw H.e H.f rfl ?_
 have hmin:(if(0:Int)<pt then 0 else pt)=min pt 0:=by omega
 have hrem:Iq l pt=Zc1 l pt (min pt 0):=by
  unfold Iq Zc1
  rw[show (-(min pt 0)).toNat=(-pt).toNat by omega,show (max (min pt 0) pt).toNat=pt.toNat by omega]
 simp[B.Lk,go_sem,hmin]
 refine(Zlr hll hpt st hwf hv (l.length - min pt 0).toNat (min pt 0) _ st .Zc [] rfl (Int.le_refl _) (by omega) (.refl hwf) (.nil _ _ _) (Dv.nil _ _) (fun _ _ _ _ h=>by cases h) (by simp) ?_ ?_ ?_ ?_).mono ?_
 ·simp[go_sem]
 ·simp[go_sem]
 ·simp[go_sem]
 ·simp[go_sem]
 ·rintro x e' s' ⟨rfl,b1,b2,b3,b4⟩
  simp only[List.nil_append]at b2
  simp[go_sem,hrem]
  exact⟨b1.Zb,b2.Zb b1.wf,b3,b4⟩
end Go.Ev

/- real.Parse told. -/
namespace Go.Ev
open Go
variable {T : Tab} {st : St}
def dbl:List Nat→Nat×List Nat
 | []=>(0,[])
 | d::r=>((2*d+(dbl r).1) / 10,(2*d+(dbl r).1) % 10::(dbl r).2)
theorem Zdr:∀l,(dbl l).2.length=l.length
 | []=>rfl
 | d::r=>by simp[dbl,Zdr r]
theorem Io:∀l,(∀d∈l,d<10)→(dbl l).1≤1
 | [],_=>by simp[dbl]
 | d::r,h=>by
   have:=Io r (fun x hx=>h x (List.mem_cons_of_mem _ hx))
   have:=h d List.mem_cons_self
   simp only[dbl];omega
theorem Zs0:∀l,∀d∈(dbl l).2,d<10
 | [],d,h=>by cases h
 | x::r,d,h=>by
   simp only[dbl]at h
   rcases List.mem_cons.1 h with rfl | h
   ·omega
   ·exact Zs0 r d h
theorem G7.form {h:Heap} {v:AV} {n ty es k:Nat} {cs:List AV} (a:G7 h v n ty es k cs) (hk:0<k):∃c,v= .slice n 0 k c:=by
 rcases a with ⟨h1,h2,h3⟩ | ⟨h1,h2,h3⟩ | ⟨ty',h1,h2,h3⟩
 ·omega
 ·exact⟨_,h1⟩
 ·exact⟨_,h1⟩
theorem Zqj {v:AV} {n:Nat} {l:List Nat} (hd:∀d∈l,d<10) (hll:l.length<9223372036854775807) (st0:St):
  ∀(m:Nat) (e:Env) (st1:St),m≤l.length→Frm [n] st0 st1→G7 st1.h v n 5 1 l.length (Xy (l.take m++(dbl (l.drop m)).2))→Zl e 0=v→Zl e 3= .int .u8 (dbl (l.drop m)).1→Zl e 4= .int .i64 ((m:Int) - 1)→
  Res (run T (.loop B.Xf) e st1) fun x e' s'=>x= .exit 0∧Frm [n] st0 s'∧G7 s'.h v n 5 1 l.length (Xy (dbl l).2)∧Zl e' 3= .int .u8 (dbl l).1:=by
 intro m
 induction m with
 | zero=>
   intro e st1 hm hf ha g0 g3 g4
   rw[Zs]
   simp only[List.drop_zero,List.take_zero,List.nil_append]at ha g3
   simp[B.Xf,go_sem,g0,g3,g4]
   exact⟨hf,ha⟩
 | succ m ih=>
   intro e st1 hm hf ha g0 g3 g4
   have hml:m<l.length:=by omega
   obtain⟨c,rfl⟩:=ha.form (by omega)
   have hdr:l.drop m=l[m]::l.drop (m+1):=List.drop_eq_getElem_cons hml
   have htk:l.take (m+1)=l.take m++[l[m]]:=List.take_succ_eq_append_getElem hml
   have hdm:=hd l[m] (List.getElem_mem hml)
   have hcr:=Io (l.drop (m+1)) (fun d h=>hd d (List.mem_of_mem_drop h))
   have hdb:dbl (l.drop m)=((2*l[m]+(dbl (l.drop (m+1))).1) / 10,(2*l[m]+(dbl (l.drop (m+1))).1) % 10::(dbl (l.drop (m+1))).2):=by rw[hdr];rfl
   generalize hcc:dbl (l.drop (m+1))=D at*
   generalize hdd:l[m]=d at*
   obtain⟨q,hq⟩:∃q,q=(2*d+D.1) % 10:=⟨_,rfl⟩
   obtain⟨r,hr⟩:∃r,r=(2*d+D.1) / 10:=⟨_,rfl⟩
   rw[←hq,←hr]at hdb
   have hlen0:(Xy (l.take (m+1)++D.2)).length=l.length:=by
    rw[Zkn,List.length_append,←hcc,Zdr];simp;omega
   have hrd:=ha.rd (o:=m) (by rw[hlen0];exact hml)
   have hval:(Xy (l.take (m+1)++D.2))[m]? =some (.int .u8 (d:Int)):=by
    simp only[Xy,List.getElem?_map]
    rw[List.getElem?_append_left (by simp;omega),htk,List.getElem?_append_right (by simp only[List.length_take];omega)]
    simp[Nat.min_eq_left (Nat.le_of_lt hml)]
   rw[hval]at hrd
   have Z7:(Xy (l.take (m+1)++D.2)).set m (.int .u8 (q:Int))=Xy (l.take m++(dbl (l.drop m)).2):=by
    rw[hdb,htk]
    simp only[Xy,List.map_append,List.map_cons,List.map_nil,List.append_assoc,List.singleton_append]
    rw[List.set_append_right _ _ (by simp only[List.length_map,List.length_take];omega)]
    simp[Nat.min_eq_left (Nat.le_of_lt hml)]
   obtain⟨h',w1,w2,w3⟩:=ha.store hf.wf (o:=m) (x:= .int .u8 (q:Int)) (by rw[hlen0];exact hml) rfl
   rw[Z7]at w2
   have e1:IntKind.u8.wrap (2*(d:Int))=2*d:=wrap_u8 (by omega) (by omega)
   have e2:IntKind.u8.wrap (2*(d:Int)+D.1)=2*d+D.1:=wrap_u8 (by omega) (by omega)
   have e3:(2*(d:Int)+D.1).tmod 10=(q:Int):=by rw[Int.tmod_eq_emod_of_nonneg (by omega)];omega
   have e4:IntKind.u8.wrap ((2*(d:Int)+D.1).tdiv 10)=(r:Int):=by
    rw[Int.tdiv_eq_ediv_of_nonneg (by omega),wrap_u8 (by omega) (by omega)];omega
   have e5:IntKind.i64.wrap ((m:Int) - 1)=m - 1:=Zo (by omega) (by omega)
   have e6:((m:Int)+1 - 1)=m:=by omega
   rw[Int.natCast_add,Int.natCast_one,e6]at g4
   have hmi:(m:Int)<l.length:=by omega
   rw[Zs]
   simp[B.Xf,go_sem,g0,g3,g4,hmi,RO.run,WO.run,hrd,e1,e2,e3,e4,e5,w1]
   refine(ih _ ⟨h',st1.nx⟩ (by omega) (hf.trans w3 (by simp)) w2 ?_ ?_ ?_).mono fun x e' s' h=>h
   ·simp[go_sem]
   ·simp[go_sem,hdb]
   ·simp[go_sem]
theorem Zi8 (H:B.H6 T) (hwf:st.Wf) {v:AV} {l:List Nat} (hd:∀d∈l,d<10) (hll:l.length<9223372036854775807) (hv:Sl st v 5 1 l.length (Xy l)):
  Qt (call T (.fn 116 [] []) [v] st) fun r s'=>r= .int .i64 (dbl l).1∧Frm v.nms st s'∧Sl s' v 5 1 (dbl l).2.length (Xy (dbl l).2):=by
 refine Zw H.e H.f rfl ?_
 have hv0:=hv
 obtain⟨n,a⟩:=hv
 have hcr:=Io l hd
 have e1:IntKind.i64.wrap ((dbl l).1:Int)=(dbl l).1:=Zo (by omega) (by omega)
 have ew:IntKind.i64.wrap (-1)= -1:=Zo (by omega) (by omega)
 have ew0:IntKind.i64.wrap 0=0:=Zo (by omega) (by omega)
 cases l with
 | nil=>
   rcases hv0.view with ⟨rfl,_,_⟩ | ⟨n',c,rfl,_⟩
   ·simp[B.Wp,go_sem,ew]
    rw[Zs]
    simp[B.Xf,go_sem,dbl,ew0]
    exact⟨(Ext.refl hwf).Zb.fr _,Sl.nil _ _ _⟩
   ·simp[B.Wp,go_sem,ew]
    rw[Zs]
    simp[B.Xf,go_sem,dbl,ew0]
    exact⟨(Ext.refl hwf).Zb.fr _,hv0.Zb hwf⟩
 | cons d r=>
   obtain⟨c,rfl⟩:=a.form (by simp)
   have hlen:IntKind.i64.wrap ((r.length:Int)+1 - 1)=r.length:=by
    rw[Int.add_sub_cancel];exact Zo (by omega) (by simp at hll;omega)
   have hlen':IntKind.i64.wrap (r.length:Int)=r.length:=Zo (by omega) (by simp at hll;omega)
   simp[B.Wp,go_sem,hlen']
   refine(Zqj (v:= .slice n 0 (r.length+1) c) (n:=n) hd hll st (d::r).length _ st (Nat.le_refl _) (.refl hwf _) ?_ ?_ ?_ ?_).mono ?_
   ·simpa [dbl] using a
   ·simp[go_sem]
   ·simp[go_sem,dbl]
   ·simp[go_sem,hlen']
   ·rintro x e s' ⟨rfl,h1,h2,h3⟩
    simp[go_sem,h3,e1]
    have hn:(AV.slice n 0 (r.length+1) c).nms=[n]:=rfl
    simp only[List.length_cons]at h2
    refine⟨h1.Zb,?_⟩
    rw[Zdr]
    exact Sl.Zb h1.wf ⟨n,h2⟩
def Fe:Nat→Nat→List Nat→Nat×List Nat
 | 0,n,l=>(n,l)
 | k+1,n,l=>Fe k (2*n+(dbl l).1) (dbl l).2
theorem Zvl (H:B.H6 T) (st0:St) {v:AV} {neg:Bool}:∀(m:Nat) (n:Nat) (l:List Nat) (e:Env) (st1:St),m≤16→n+1≤2 ^ (48 - m)→(∀d∈l,d<10)→l.length<1000000000→Frm v.nms st0 st1→Sl st1 v 5 1 l.length (Xy l)→
  Zl e 5= .bool neg→Zl e 9= .int .i64 n→Zl e 10=v→Zl e 39= .int .i64 (16 - (m:Int))→
  Res (run T (.loop B.H9) e st1) fun x e' s'=>x= .exit 0∧Frm v.nms st0 s'∧Sl s' v 5 1 (Fe m n l).2.length (Xy (Fe m n l).2)∧Zl e' 9= .int .i64 (Fe m n l).1∧Zl e' 5= .bool neg∧Zl e' 10=v∧(∀d∈(Fe m n l).2,d<10)∧(Fe m n l).2.length=l.length:=by
 intro m
 induction m with
 | zero=>
   intro n l e st1 hm hn hd hll hf hv g5 g9 g10 g39
   rw[Zs]
   simp[B.H9,go_sem,g5,g9,g10,g39,Fe]
   exact⟨hf,hv,hd⟩
 | succ m ih=>
   intro n l e st1 hm hn hd hll hf hv g5 g9 g10 g39
   have hlt:(16:Int) - ((m+1:Nat):Int)<16:=by omega
   have hcr:=Io l hd
   have hpow:2 ^ (48 - (m+1))*2=2 ^ (48 - m):=by rw[←Nat.pow_succ];congr 1;omega
   have hpow2:2 ^ (48 - m)≤2 ^ 48:=Nat.pow_le_pow_right (by omega) (by omega)
   have hn2:2*n+(dbl l).1+1≤2 ^ (48 - m):=by omega
   have e1:IntKind.i64.wrap (2*(n:Int))=2*n:=Zo (by omega) (by omega)
   have e2:IntKind.i64.wrap (2*(n:Int)+(dbl l).1)=((2*n+(dbl l).1:Nat):Int):=by rw[Zo (by omega) (by omega)];omega
   have e3:IntKind.i64.wrap ((16:Int) - ((m:Int)+1)+1)=16 - m:=by rw[Zo (by omega) (by omega)];omega
   rw[Zs]
   simp only[Int.natCast_add,Int.natCast_one]at hlt g39
   simp[B.H9,go_sem,g5,g9,g10,g39,hlt,e1]
   refine(Zi8 H hf.wf hd (by omega) hv).mono ?_
   rintro r s1 ⟨rfl,f1,h1⟩
   simp[go_sem,e2,e3]
   simp only[Fe]
   have hd2:=Zs0 l
   have hl2:=Zdr l
   refine(ih (2*n+(dbl l).1) (dbl l).2 _ s1 (by omega) hn2 hd2 (by omega) (hf.trans f1 (fun n h=> .inl h)) h1 ?_ ?_ ?_ ?_).mono ?_
   ·simp[go_sem]
   ·simp[go_sem]
   ·simp[go_sem]
   ·simp[go_sem]
   ·rintro x e' s' ⟨rfl,a1,a2,a3,a4,a5,a6,a7⟩
    exact⟨rfl,a1,a2,a3,a4,a5,a6,by rw[a7,hl2]⟩
theorem Zwb {v:AV} {l:List Nat} (hll:l.length<1000000000) (st0:St) (hwf:st0.Wf) (hv:SlR st0.h v l) {neg half:Bool} {n:Int}:∀(m i:Nat) (mo:Bool) (e:Env),i+m=l.length→Zl e 50=v→Zl e 51= .int .i64 l.length→Zl e 52= .int .i64 i→Zl e 12= .bool mo→
   Zl e 5= .bool neg→Zl e 9= .int .i64 n→Zl e 11= .bool half→
  Res (run T (.loop B.Nz) e st0) fun x e' s'=>x= .exit 2∧s'=st0∧Zl e' 12= .bool (mo || (l.drop i).any fun d=>decide (d≠0))∧Zl e' 5= .bool neg∧Zl e' 9= .int .i64 n∧Zl e' 11= .bool half:=by
 intro m
 induction m with
 | zero=>
   intro i mo e hi g50 g51 g52 g12 g5 g9 g11
   have hil:i=l.length:=by omega
   subst hil
   rw[Zs]
   simp[B.Nz,go_sem,g50,g51,g52,g12,g5,g9,g11]
 | succ m ih=>
   intro i mo e hi g50 g51 g52 g12 g5 g9 g11
   have hil:i<l.length:=by omega
   have hil':(i:Int)<l.length:=by omega
   rcases hv with ⟨_,rfl⟩ | ⟨nn,c,rfl,hr⟩
   ·simp at hil
   have hri:=hr i hil
   have hdr:l.drop i=l.getD i 0::l.drop (i+1):=by rw[List.drop_eq_getElem_cons hil];simp[List.getElem?_eq_getElem hil]
   generalize l.getD i 0=d at hri hdr
   have e1:IntKind.i64.wrap ((i:Int)+1)=((i+1:Nat):Int):=Zo (by omega) (by omega)
   rw[Zs,hdr]
   cases mo with
   | true=>
     simp[B.Nz,go_sem,g50,g51,g52,g12,g5,g9,g11,hil',RO.run,hri]
     refine(ih (i+1) true _ (by omega) ?_ ?_ ?_ ?_ ?_ ?_ ?_).mono fun x e' s' h=>by simpa using h
     ·simp[go_sem]
     ·simp[go_sem]
     ·simp[go_sem,e1]
     ·simp[go_sem]
     ·simp[go_sem]
     ·simp[go_sem]
     ·simp[go_sem]
   | false=>
     simp[B.Nz,go_sem,g50,g51,g52,g12,g5,g9,g11,hil',RO.run,hri]
     refine(ih (i+1) (decide (d≠0)) _ (by omega) ?_ ?_ ?_ ?_ ?_ ?_ ?_).mono fun x e' s' h=>by simpa using h
     ·simp[go_sem]
     ·simp[go_sem]
     ·simp[go_sem,e1]
     ·simp[go_sem]
     ·simp[go_sem]
     ·simp[go_sem]
     ·simp[go_sem]
end Go.Ev

/- real.Parse told. -/
namespace Go.Ev
open Go
variable {T : Tab} {st : St}
theorem Zabs (s:List UInt8):(sgn s).2.length≤s.length:=by
 rw[(Ch s).1];simp
theorem Zs2 {s:List UInt8} {neg:Bool} {l:List Nat} {pt:Int} (h:Zlh s=some (neg,l,pt)):l.length≤s.length∧(∀d∈l,d<10)∧-1000≤pt∧pt≤s.length+1000:=by
 have hs:=Zabs s
 have h1:=Cp (sgn s).2
 have d1:=Oe (sgn s).2
 have hL:(Zs3 s).length≤s.length∧∀d∈Zs3 s,d<10:=by
  have h2:=Cp (Jm (sgn s).2).2.tail
  have d2:=Oe (Jm (sgn s).2).2.tail
  simp only[List.length_tail]at h2
  unfold Zs3
  split
  ·refine⟨by simp;omega,fun d hd=> ?_⟩
   rcases List.mem_append.1 hd with hd | hd
   ·exact d1 d hd
   ·exact d2 d hd
  ·exact⟨by omega,d1⟩
 unfold Zlh at h
 split at h
 ·cases h
 ·split at h
  ·split at h
   ·cases h
   ·rename_i hbad
    split at h
    ·have hnb:E0 (Jm (sgn (Zli s).tail).2).1<1000:=by
      refine Nat.lt_of_lt_of_le (Zu6 (fun d hd=>Oe _ d hd)) ?_
      exact Nat.le_trans (Nat.pow_le_pow_right (by omega) (show _≤3 by omega)) (by omega)
     simp only[Option.some.injEq,Prod.mk.injEq]at h
     obtain⟨_,rfl,rfl⟩:=h
     refine⟨hL.1,hL.2,?_,?_⟩ <;> split <;> omega
    ·cases h
  ·split at h
   ·simp only[Option.some.injEq,Prod.mk.injEq]at h
    obtain⟨_,rfl,rfl⟩:=h
    exact⟨hL.1,hL.2,by omega,by omega⟩
   ·cases h
def Zug (neg:Bool) (l:List Nat) (pt:Int):Option Int:=
 if 2147483648<Ms 0 (Zeb l pt)then none else
 let b:=Fe 16 (Ms 0 (Zeb l pt)) (Iq l pt)
 let n:=if(dbl b.2).1=1∧(neg=false∨((dbl b.2).2.any fun d=>decide (d≠0))=true)then b.1+1 else b.1
 let v:Int:=if neg=true then -(n:Int)else n
 if -2147483648≤v∧v≤2147483648 then some v else none
def Hu (s:List UInt8):Int×Int:=
 if 40<s.length then(0,3)else
 match Zlh s with
 | none=>(0,5)
 | some (neg,l,pt)=>match Zug neg l pt with | some v=>(v,0) | none=>(0,6)
theorem Zp6:∀(m n:Nat) (l:List Nat),(∀d∈l,d<10)→(Fe m n l).1+1≤(n+1)*2 ^ m
 | 0,n,l,_=>by simp[Fe]
 | m+1,n,l,h=>by
   have:=Io l h
   have ih:=Zp6 m (2*n+(dbl l).1) (dbl l).2 (Zs0 l)
   simp only[Fe]
   refine Nat.le_trans ih ?_
   rw[Nat.pow_succ,Nat.mul_comm (2 ^ m) 2,←Nat.mul_assoc]
   exact Nat.mul_le_mul_right _ (by omega)
theorem Zahn {n:Nat} (h:n+1≤140737488420864):IntKind.i64.wrap ((n:Int)+1)=n+1∧IntKind.i64.wrap (-(n:Int))= -n∧IntKind.i64.wrap (-((n:Int)+1))= -(n+1)∧IntKind.i64.wrap (-1+ -(n:Int))= -(n+1):=by
 obtain⟨M,hM⟩:∃M:Int,M=140737488420864:=⟨_,rfl⟩
 have h1:(n:Int)+1≤M:=by omega
 have a: -9223372036854775808≤-M:=by rw[hM];decide
 have b:M≤9223372036854775807:=by rw[hM];decide
 have c: -9223372036854775808≤(0:Int):=by decide
 clear hM h
 refine⟨Zo (Int.le_trans c (by omega)) (Int.le_trans h1 b),Zo (Int.le_trans a (by omega)) (Int.le_trans (show -(n:Int)≤M by omega) b),Zo (Int.le_trans a (by omega)) (Int.le_trans (show -((n:Int)+1)≤M by omega) b),?_⟩
 rw[show -1+ -(n:Int)= -((n:Int)+1)by omega]
 exact Zo (Int.le_trans a (by omega)) (Int.le_trans (show -((n:Int)+1)≤M by omega) b)
theorem Zg9 (H:B.Du T) (hwf:st.Wf) {s:List UInt8}:Z9 T st (.fn 100 [] []) [.str s] (.tuple [.int .i64 (Hu s).1,.int .i64 (Hu s).2]):=by
 refine Zm H.e H.f rfl ?_
 by_cases hlong:40<s.length
 ·have hlong':(40:Int)<s.length:=by omega
  simp[B.Xz,go_sem,hlong,hlong',Hu,Ext.refl hwf]
 have hlong':¬(40:Int)<s.length:=by omega
 have hx:=Ext.new hwf (.cells 187 false [.str s,.int .i64 0])
 have hq:Wj ⟨(st.nx,.cells 187 false [.str s,.int .i64 0])::st.h,st.nx+1⟩ st.nx s 0:=by simp[Wj,Zg]
 have hps:Hu s=(match Zlh s with | none=>(0,5) | some (neg,l,pt)=>match Zug neg l pt with | some v=>(v,0) | none=>(0,6)):=by simp only[Hu,if_neg hlong]
 simp[B.Xz,go_sem,hlong',NO.run]
 refine(Zqf H.K8 hx.wf (by omega) hq).mono ?_
 rintro v1 s1 ⟨f1,ho⟩
 have x1:Ext st s1:=hx.Ma f1 (by simp)
 cases hdec:Zlh s with
 | none=>
   rw[hdec]at ho hps
   obtain⟨a,b,c,rfl⟩:=ho
   simp[go_sem,hps,x1]
 | some o=>
   obtain⟨neg,l,pt⟩:=o
   rw[hdec]at ho hps
   obtain⟨sv,rfl,hl,hm⟩:=ho
   obtain⟨k1,k2,k3,k4⟩:=Zs2 hdec
   have hgd:∀i,l.getD i 0<10:=fun i=>by
    rw[List.getD_eq_getElem?_getD]
    cases h:l[i]? with
    | none=>simp
    | some d=>exact k2 d (List.mem_of_getElem? h)
   simp only at hps
   simp[go_sem]
   refine(Zqu H.Rq f1.wf hgd (by omega) (by omega) hl.slR).use fun s2 hs2=> ?_
   have hl2:=hl.ext hs2 f1.wf
   simp[go_sem]
   refine(Zn7 H.Lk hs2.wf (by omega) (by omega) hl2.slR).mono ?_
   rintro v2 s3 ⟨x3,hf,hm2,hnk2⟩
   have x13:=(x1.trans hs2).trans x3
   have hge:∀n∈v2.nms,st.nx≤n:=fun n hn=>by
    rcases hm2 n hn with h | h
    ·cases h
    ·exact Nat.le_trans (x1.trans hs2).nx h
   by_cases hbig:2147483648<Ms 0 (Zeb l pt)
   ·have hbig':(2147483648:Int)<Ms 0 (Zeb l pt):=by omega
    have:Zug neg l pt=none:=by simp only[Zug,if_pos hbig]
    rw[this]at hps
    simp[go_sem,hbig',hps,x13]
   have hbig':¬(2147483648:Int)<Ms 0 (Zeb l pt):=by omega
   simp[go_sem,hbig']
   have hfd:∀d∈Iq l pt,d<10:=fun d hd=>by
    unfold Iq at hd
    rcases List.mem_append.1 hd with hd | hd
    ·have:=List.eq_of_mem_replicate hd;omega
    ·exact k2 d (List.mem_of_mem_drop hd)
   have hfl:(Iq l pt).length<10000:=by simp[Iq];omega
   have hval:Zug neg l pt=(let b:=Fe 16 (Ms 0 (Zeb l pt)) (Iq l pt)
    let n:=if(dbl b.2).1=1∧(neg=false∨((dbl b.2).2.any fun d=>decide (d≠0))=true)then b.1+1 else b.1
    let v:Int:=if neg=true then -(n:Int)else n
    if -2147483648≤v∧v≤2147483648 then some v else none):=by simp only[Zug,if_neg hbig]
   have hb16:=Zp6 16 (Ms 0 (Zeb l pt)) (Iq l pt) hfd
   refine(Zvl H.Wp s3 (v:=v2) (neg:=neg) 16 (Ms 0 (Zeb l pt)) (Iq l pt) _ s3 (by omega) (by omega) hfd (by omega) (.refl x3.wf _) hf ?_ ?_ ?_ ?_).mono ?_
   ·simp[go_sem]
   ·simp[go_sem]
   ·simp[go_sem]
   ·simp[go_sem]
   rintro x e4 s4 ⟨rfl,f4,h4,g9,g5,g10,hd4,hl4⟩
   generalize hB:Fe 16 (Ms 0 (Zeb l pt)) (Iq l pt)=b at*
   simp[go_sem,g5,g9,g10]
   refine(Zi8 H.Wp f4.wf hd4 (by omega) h4).mono ?_
   rintro r s5 ⟨rfl,f5,h5⟩
   have x15:Ext st s5:=(x13.Ma f4 hge).Ma f5 hge
   have hlen5:=h5.lenOf (ev:=fun _=>v2) (x:= .t 0) rfl
   simp[PO.run]at hlen5
   have hbl:(dbl b.2).2.length<10000:=by rw[Zdr];omega
   simp[go_sem,hlen5]
   refine(Zwb (v:=v2) (l:=(dbl b.2).2) (by omega) s5 f5.wf h5.slR (neg:=neg) (half:=decide (((dbl b.2).1:Int)=1)) (n:=b.1) (dbl b.2).2.length 0 false _ (by simp) ?_ ?_ ?_ ?_ ?_ ?_ ?_).mono ?_
   ·simp[go_sem]
   ·simp[go_sem]
   ·simp[go_sem]
   ·simp[go_sem]
   ·simp[go_sem]
   ·simp[go_sem]
   ·simp[go_sem]
   rintro x e6 s6 ⟨rfl,rfl,u12,u5,u9,u11⟩
   simp only[Bool.false_or,List.drop_zero]at u12
   simp only at hval
   generalize hM:((dbl b.2).2.any fun d=>decide (d≠0))=mo at u12 hval
   generalize hC:(dbl b.2).1=c at u11 hval
   obtain⟨bn,hbn⟩:∃bn,bn=b.1:=⟨_,rfl⟩
   rw[←hbn]at u9 hval hb16
   have hbn2:bn+1≤140737488420864:=Nat.le_trans hb16 (Nat.le_trans (Nat.mul_le_mul (show Ms 0 (Zeb l pt)+1≤2147483649 by omega) (Nat.le_refl (2 ^ 16))) (by decide))
   clear hb16
   have fin:∀(V:Int),Zug neg l pt=(if -2147483648≤V∧V≤2147483648 then some V else none)→∃bv:Bool,Z9 T s6 (.fn 110 [] []) [.int .i64 V] (.bool bv)∧((bv=true∧Hu s=(V,0))∨(bv=false∧Hu s=(0,6))):=by
    intro V hV
    refine⟨_,Zpk H.Rc f5.wf,?_⟩
    by_cases hr: -2147483648≤V∧V≤2147483648
    ·left
     rw[if_pos hr]at hV
     rw[hV]at hps
     exact⟨by simp[hr.1,hr.2],hps⟩
    ·right
     rw[if_neg hr]at hV
     rw[hV]at hps
     refine⟨?_,hps⟩
     rw[←Bool.not_eq_true]
     simpa using hr
   obtain⟨w1,w2,w3,w4⟩:=Zahn hbn2
   clear hbn2
   cases neg <;> cases mo <;> by_cases hc1:c=1
   all_goals
    try have hc2:(c:Int)=1:=by omega
    try have hc2:¬(c:Int)=1:=by omega
    simp[go_sem,u12,u5,u9,u11,hc1,hc2,w1,w2,w3,w4]
    obtain⟨bv,g1,g2⟩:=fin _ hval
    simp[hc1]at g1 g2
    refine Qt.mono g1 ?_
    rintro v7 s7 ⟨rfl,hs7⟩
    have x17:=x15.trans hs7
    rcases g2 with ⟨g2,g3⟩ | ⟨g2,g3⟩
    ·simp[go_sem,g2,g3,x17]
    ·simp[go_sem,g2,g3,x17]
end Go.Ev

/- strings.ContainsAny with ASCII characters, for any text. -/
namespace Go.Ev
open Go
variable {T : Tab} {st : St}
def Zgr (l:List UInt8):Prop:=∀c∈l,c.toNat<128
theorem Zr0 {s:List UInt8} {p:Nat} {c:UInt8} (hc:s[p]? =some c) (h:c.toNat<128):G4 s p=(c.toNat,1):=by
 have hlt:=(List.getElem?_eq_some_iff.1 hc).1
 have he:=(List.getElem?_eq_some_iff.1 hc).2
 have hs:p<(⟨s.toArray⟩:ByteArray).size:=by simpa [ByteArray.size] using hlt
 have hb:((⟨s.toArray⟩:ByteArray)[p]'hs)=c:=by rw[←he];rfl
 have:=decode_ascii ⟨s.toArray⟩ p hs (by rw[hb];exact h)
 rw[hb]at this
 exact this
theorem Zqv {s:List UInt8} {k:Nat} (h:k<s.length):(⟨s.toArray⟩:ByteArray).get! k=s[k]:=by
 simp[ByteArray.get!,h]
theorem Zws {s:List UInt8} {p:Nat} {c:UInt8} (hc:s[p]? =some c) (h:128≤c.toNat):
  128≤(G4 s p).1∧(G4 s p).1≤2147483647∧1≤(G4 s p).2∧p+(G4 s p).2≤s.length∧∀j,j<(G4 s p).2→∀d,s[p+j]? =some d→128≤d.toNat:=by
 have hlt:=(List.getElem?_eq_some_iff.1 hc).1
 have he:=(List.getElem?_eq_some_iff.1 hc).2
 have hs:p<(⟨s.toArray⟩:ByteArray).size:=by simpa [ByteArray.size] using hlt
 have hb:((⟨s.toArray⟩:ByteArray)[p]'hs)=c:=by rw[←he];rfl
 have h1:=decode_high ⟨s.toArray⟩ p hs (by rw[hb];exact h)
 have h2:=decode_le ⟨s.toArray⟩ p
 have hsz:(⟨s.toArray⟩:ByteArray).size=s.length:=by simp[ByteArray.size]
 have hcont:∀k,p+k<s.length→((⟨s.toArray⟩:ByteArray).get! (p+k)).toNat / 64=2→∀d,s[p+k]? =some d→128≤d.toNat:=by
  intro k hk hq d hd
  rw[Zqv hk]at hq
  have:s[p+k]=d:=(List.getElem?_eq_some_iff.1 hd).2
  rw[this]at hq
  omega
 have h0:∀d,s[p+0]? =some d→128≤d.toNat:=fun d hd=>by
  rw[Nat.add_zero,hc]at hd
  cases hd
  exact h
 refine⟨h1.1,h2,h1.2,?_⟩
 have hg0:(⟨s.toArray⟩:ByteArray).get! (p+0)=c:=by rw[Nat.add_zero,Zqv hlt,he]
 unfold G4 Utf8.decode
 simp only[hg0,hsz]
 have hn:¬c.toNat<128:=by omega
 rw[if_neg hn]
 have one:p+1≤s.length∧∀j,j<1→∀d,s[p+j]? =some d→128≤d.toNat:=⟨by omega,fun j hj=>by rw[show j=0 by omega];exact h0⟩
 split
 ·rename_i hq
  simp only[Bool.and_eq_true,decide_eq_true_eq,beq_iff_eq]at hq
  split
  ·refine⟨by simp only;omega,fun j hj d hd=> ?_⟩
   simp only at hj
   rcases(show j=0∨j=1 by omega)with rfl | rfl
   ·exact h0 d hd
   ·exact hcont 1 hq.2.1 hq.2.2 d hd
  ·exact one
 ·split
  ·rename_i hq
   simp only[Bool.and_eq_true,decide_eq_true_eq,beq_iff_eq]at hq
   split
   ·refine⟨by simp only;omega,fun j hj d hd=> ?_⟩
    simp only at hj
    rcases(show j=0∨j=1∨j=2 by omega)with rfl | rfl | rfl
    ·exact h0 d hd
    ·exact hcont 1 hq.1.2.1 hq.1.2.2 d hd
    ·exact hcont 2 hq.2.1 hq.2.2 d hd
   ·exact one
  ·split
   ·rename_i hq
    simp only[Bool.and_eq_true,decide_eq_true_eq,beq_iff_eq]at hq
    split
    ·refine⟨by simp only;omega,fun j hj d hd=> ?_⟩
     simp only at hj
     rcases(show j=0∨j=1∨j=2∨j=3 by omega)with rfl | rfl | rfl | rfl
     ·exact h0 d hd
     ·exact hcont 1 hq.1.1.2.1 hq.1.1.2.2 d hd
     ·exact hcont 2 hq.1.2.1 hq.1.2.2 d hd
     ·exact hcont 3 hq.2.1 hq.2.2 d hd
    ·exact one
   ·exact one
theorem Zpn {r:Int} (h:128≤r):2≤(P3 r).length∧(P3 r).length≤4∧∀c∈P3 r,128≤c.toNat:=by
 have hmod:∀n:Nat,n<256→(UInt8.ofNat n).toNat=n:=fun n hn=>by rw[UInt8.toNat_ofNat',Nat.mod_eq_of_lt hn]
 unfold P3 Utf8.encode
 simp only
 have hc:∃c:Nat,(if Utf8.valid r=true then r.toNat else Utf8.runeError)=c∧128≤c∧c≤1114111:=by
  refine⟨_,rfl,?_⟩
  split
  ·rename_i hv
   simp only[Utf8.valid,Bool.or_eq_true,Bool.and_eq_true,decide_eq_true_eq]at hv
   omega
  ·simp[Utf8.runeError]
 obtain⟨c,hc,h1,h2⟩:=hc
 rw[hc,if_neg (by omega)]
 split
 ·refine⟨by simp,by simp,fun d hd=> ?_⟩
  simp only[List.mem_cons,List.not_mem_nil,or_false]at hd
  rcases hd with rfl | rfl
  ·rw[hmod _ (by omega)];omega
  ·rw[hmod _ (by omega)];omega
 ·split
  ·refine⟨by simp,by simp,fun d hd=> ?_⟩
   simp only[List.mem_cons,List.not_mem_nil,or_false]at hd
   rcases hd with rfl | rfl | rfl
   ·rw[hmod _ (by omega)];omega
   ·rw[hmod _ (by omega)];omega
   ·rw[hmod _ (by omega)];omega
  ·refine⟨by simp,by simp,fun d hd=> ?_⟩
   simp only[List.mem_cons,List.not_mem_nil,or_false]at hd
   rcases hd with rfl | rfl | rfl | rfl
   ·rw[hmod _ (by omega)];omega
   ·rw[hmod _ (by omega)];omega
   ·rw[hmod _ (by omega)];omega
   ·rw[hmod _ (by omega)];omega
theorem H8:∀(l:List UInt8) (c:UInt8),0≤Lib.indexByte l c↔c∈l
 | [],c=>by simp[Lib.indexByte]
 | b::l,c=>by
   have ih:=H8 l c
   have hge:=Lib.indexByte_ge l c
   simp only[Lib.indexByte,List.mem_cons]
   by_cases hbc:b=c
   ·subst hbc;simp
   ·rw[if_neg (by simpa using hbc)]
    have hcb:¬c=b:=fun e=>hbc e.symm
    split
    ·rename_i h
     have:Lib.indexByte l c= -1:=by simpa using h
     simp only[hcb,false_or]
     rw[←ih]
     omega
    ·rename_i h
     have:¬Lib.indexByte l c= -1:=by simpa using h
     simp only[hcb,false_or]
     rw[←ih]
     omega
theorem Zic (H:B.Ww T) (hwf:st.Wf) {r:Int} (h0:0≤r):∃b,Z9 T st (.fn 147 [] []) [.int .i32 r] (.bool b):=by
 by_cases h1:r<55296
 ·exact⟨true,by refine Zm H.e H.f rfl ?_;simp[B.Q6,go_sem,h0,h1,Ext.refl hwf]⟩
 ·by_cases h2:57343<r
  ·by_cases h3:r≤1114111
   ·exact⟨true,by refine Zm H.e H.f rfl ?_;simp[B.Q6,go_sem,h0,h1,h2,h3,Ext.refl hwf]⟩
   ·exact⟨false,by refine Zm H.e H.f rfl ?_;simp[B.Q6,go_sem,h0,h1,h2,h3,Ext.refl hwf]⟩
  ·exact⟨false,by refine Zm H.e H.f rfl ?_;simp[B.Q6,go_sem,h0,h1,h2,Ext.refl hwf]⟩
theorem Zy5 {chars:List UInt8} (ha:Zgr chars) (hlen:chars.length<1000000000) (st0:St) {q:Nat}:∀(m p:Nat) (e:Env) (st1:St),p+m=chars.length→Frm [q] st0 st1→Zh st1.h q=some (.iter chars p)→Zl e 175= .ptr q 0→
  Res (run T (.loop B.Wt) e st1) fun x e' s'=>x= .exit 9∧Frm [q] st0 s':=by
 intro m
 induction m with
 | zero=>
   intro p e st1 hi hf hq g
   have hp:¬p<chars.length:=by omega
   rw[Zs]
   simp[B.Wt,go_sem,g,WO.run,hq,hp,hf]
 | succ m ih=>
   intro p e st1 hi hf hq g
   have hp:p<chars.length:=by omega
   obtain⟨c,hc,_⟩:=Mt hp
   have hc128:=ha c (List.mem_of_getElem? hc)
   have hr:=Zr0 hc hc128
   have hne:¬(c.toNat:Int)=65533:=by omega
   rw[Zs]
   simp[B.Wt,go_sem,g,WO.run,hq,hp,hr,hne]
   refine(ih (p+1) _ ⟨_,st1.nx⟩ (by omega) (hf.trans (Frm.set hf.wf hq) (by simp)) (Zn hq) ?_).mono fun x e' s' h=>h
   simp[go_sem]
theorem Zjw (H:B.V7 T) (hwf:st.Wf) {chars:List UInt8} (ha:Zgr chars) (hlen:chars.length<1000000000) {r:Int} (h1:128≤r):Z9 T st (.fn 143 [] []) [.str chars,.int .i32 r] (.int .i64 (-1)):=by
 refine Zm H.e H.f rfl ?_
 have n1:¬r<128:=by omega
 have n0:0≤r:=by omega
 by_cases hre:r=65533
 ·subst hre
  have hx:=Ext.new hwf (.iter chars 0)
  simp[B.Kq,go_sem,NO.run]
  refine(Zy5 (T:=T) ha hlen ⟨(st.nx,.iter chars 0)::st.h,st.nx+1⟩ (q:=st.nx) chars.length 0 _ _ (by simp) (.refl hx.wf _) (by simp[Zg]) ?_).mono ?_
  ·simp[go_sem]
  ·rintro x e s' ⟨rfl,h⟩
   simp[go_sem]
   exact hx.Ma h (by simp)
 ·simp[B.Kq,go_sem,n1,n0,hre]
  obtain⟨b,hb⟩:=Zic H.Q6 hwf n0
  refine hb.use fun s1 hs1=> ?_
  cases b with
  | false=>simp[go_sem,hs1]
  | true=>
    obtain⟨l1,l2,l3⟩:=Zpn h1
    generalize hR:P3 r=R at l1 l2 l3
    have hlast:∃c,R[R.length - 1]? =some c∧128≤c.toNat:=by
     have:R.length - 1<R.length:=by omega
     exact⟨R[R.length - 1],List.getElem?_eq_getElem this,l3 _ (List.getElem_mem this)⟩
    obtain⟨c,hc,hc128⟩:=hlast
    have e1:IntKind.i64.wrap ((R.length:Int) - 1)=R.length - 1:=Zo (by omega) (by omega)
    have e2:((R.length:Int) - 1).toNat=R.length - 1:=by omega
    have e3:(0:Int)≤(R.length:Int) - 1:=by omega
    have e6:(1:Int)≤(R.length:Int):=by omega
    simp[go_sem,hR,e1]
    rw[Zs]
    by_cases hlt:(R.length:Int) - 1<chars.length
    ·obtain⟨d,hd,_⟩:=Mt (s:=chars) (i:=R.length - 1) (by omega)
     have hd128:=ha d (List.mem_of_getElem? hd)
     have hne:¬(d.toNat:Int)=c.toNat:=by omega
     have hne':¬d.toNat=c.toNat:=by omega
     have hsub:=Zce (s:=chars) (i:=(R.length:Int) - 1+1) (k:= .i64) (by omega) (by omega)
     have e4:IntKind.i64.wrap ((R.length:Int) - 1+1)=R.length - 1+1:=Zo (by omega) (by omega)
     have e5:((R.length:Int) - 1+1)=R.length:=by omega
     rw[e5]at hsub e4
     have hcall:=fun st=>Ao (st:=st) H.strings_IndexByte (s:=chars.drop R.length) (c:=c.toNat)
     have hnone:Lib.indexByte (chars.drop R.length) c<0:=by
      rw[←Int.not_le,H8]
      intro Po
      have:=ha c (List.mem_of_mem_drop Po)
      omega
     have hx1:=Ext.aside hs1.wf 7
     have hx2:=Ext.aside hx1.wf 9
     simp at hx2
     have w0:IntKind.i64.wrap (R.length:Int)=R.length:=Zo (by omega) (by omega)
     have t0:(R.length:Int).toNat=R.length:=by omega
     rw[t0]at hsub
     simp[B.My,go_sem,hlt,hd,hc,hne,hne',e2,e3,e4,e5,e6,w0,hsub,hcall,hnone]
     exact hs1.trans (hx1.trans hx2)
    ·simp[B.My,go_sem,hlt,hs1]
theorem Zlu (H:B.V7 T) (hwf:st.Wf) {chars:List UInt8} {c:UInt8} (hc:c.toNat<128):Z9 T st (.fn 143 [] []) [.str chars,.int .i32 c.toNat] (.int .i64 (Lib.indexByte chars c)):=by
 refine Zm H.e H.f rfl ?_
 have h1:(c.toNat:Int)<128:=by omega
 have hw:IntKind.u8.wrap (c.toNat:Int)=c.toNat:=wrap_u8 (by omega) (by omega)
 have hcall:=fun st=>Ao (st:=st) H.strings_IndexByte (s:=chars) (c:=c.toNat)
 simp[B.Kq,go_sem,h1,hw,hcall,Ext.refl hwf]
end Go.Ev

/- strings.ContainsAny told. -/
namespace Go.Ev
open Go
variable {T : Tab} {st : St}
def Hx (l:List UInt8):List AV:=(List.range 256).map fun i=> .bool (decide (UInt8.ofNat i∈l))
theorem N6 (l:List UInt8):(Hx l).length=256:=by simp[Hx]
theorem Zr6:List.replicate 256 (AV.bool false)=Hx []:=by
 apply List.ext_getElem?
 intro i
 simp only[Hx,List.getElem?_map]
 by_cases hi:i<256
 ·rw[List.getElem?_replicate,if_pos hi,List.getElem?_range hi]
  simp
 ·rw[List.getElem?_replicate,if_neg hi,List.getElem?_eq_none (by simp;omega)]
  rfl
theorem Zr5 (l:List UInt8) (c:UInt8):(Hx l)[c.toNat]? =some (.bool (decide (c∈l))):=by
 have:=c.toNat_lt
 simp only[Hx,List.getElem?_map]
 rw[List.getElem?_range (by omega)]
 simp
theorem Zwv (l:List UInt8) (c:UInt8):(Hx l).set c.toNat (.bool true)=Hx (l++[c]):=by
 apply List.ext_getElem?
 intro i
 by_cases hi:i<256
 ·have h1:∀l,(Hx l)[i]? =some (.bool (decide (UInt8.ofNat i∈l))):=fun l=>by
   have:=Zr5 l (UInt8.ofNat i)
   rwa[UInt8.toNat_ofNat',Nat.mod_eq_of_lt (by omega)]at this
  rw[List.getElem?_set,h1,h1]
  by_cases hc:c.toNat=i
  ·subst hc
   simp[N6,hi]
  ·rw[if_neg hc]
   have:¬UInt8.ofNat i=c:=fun e=>hc (by rw[←e,UInt8.toNat_ofNat',Nat.mod_eq_of_lt (by omega)])
   simp[this]
 ·rw[List.getElem?_eq_none (by simp[N6];omega),List.getElem?_eq_none (by simp[N6];omega)]
theorem Zvd (l:List UInt8):(Hx l).all AV.sc=true:=by simp[Hx,AV.sc]
theorem Zwa {chars:List UInt8} (ha:Zgr chars) (hlen:chars.length<1000000000) (st0:St) {q:Nat}:∀(m i:Nat) (e:Env) (st1:St),i+m=chars.length→Frm [q] st0 st1→Zh st1.h q=some (.cells 197 true (Hx (chars.take i)))→
  Zl e 0= .str chars→Zl e 2= .ptr q 0→Zl e 4= .int .i64 i→
  Res (run T (.loop B.Vz) e st1) fun x e' s'=>x= .exit 0∧Frm [q] st0 s'∧Zh s'.h q=some (.cells 197 true (Hx chars))∧Zl e' 2= .ptr q 0:=by
 intro m
 induction m with
 | zero=>
   intro i e st1 hi hf hq g0 g2 g4
   have hil:i=chars.length:=by omega
   subst hil
   rw[List.take_length]at hq
   rw[Zs]
   simp[B.Vz,go_sem,g0,g2,g4]
   exact⟨hf,hq⟩
 | succ m ih=>
   intro i e st1 hi hf hq g0 g2 g4
   have hil:i<chars.length:=by omega
   have hil':(i:Int)<chars.length:=by omega
   obtain⟨c,hc,_⟩:=Mt hil
   have hc128:=ha c (List.mem_of_getElem? hc)
   have hn:¬(128:Int)≤c.toNat:=by omega
   have hlt:(c.toNat:Int)<256:=by omega
   have hw:=Og hq (v:= .bool true) rfl (o:=c.toNat) (by rw[N6];omega)
   have htk:chars.take (i+1)=chars.take i++[c]:=by
    rw[List.take_succ_eq_append_getElem hil,(List.getElem?_eq_some_iff.1 hc).2]
   rw[Zwv,←htk]at hw
   have e1:IntKind.i64.wrap ((i:Int)+1)=((i+1:Nat):Int):=Zo (by omega) (by omega)
   rw[Zs]
   simp[B.Vz,go_sem,g0,g2,g4,hil',hc,hn,hlt,WO.run,hw]
   refine(ih (i+1) _ ⟨_,st1.nx⟩ (by omega) (hf.trans (Frm.set hf.wf hq) (by simp)) (Zn hq) ?_ ?_ ?_).mono fun x e' s' h=>h
   ·simp[go_sem]
   ·simp[go_sem]
   ·simp[go_sem,e1]
theorem Zl6 (H:B.Xr T) (hwf:st.Wf) {chars:List UInt8} (ha:Zgr chars) (hlen:chars.length<1000000000):Z9 T st (.fn 145 [] []) [.str chars] (.tuple [.agg (Hx chars),.bool true]):=by
 refine Zm H.e H.f rfl ?_
 have hx:=Ext.new hwf (.cells 197 true (Hx []))
 have h0:List.replicate 256 (AV.bool false)=Hx []:=Zr6
 simp only[B.strings_makeASCIISet,h0]
 simp[go_sem,NO.run]
 refine(Zwa (T:=T) ha hlen ⟨(st.nx,.cells 197 true (Hx []))::st.h,st.nx+1⟩ (q:=st.nx) chars.length 0 _ _ (by simp) (.refl hx.wf _) (by simp[Zg]) ?_ ?_ ?_).mono ?_
 ·simp[go_sem]
 ·simp[go_sem]
 ·simp[go_sem]
 ·rintro x e s' ⟨rfl,f1,g1,g2⟩
  have hr:=Lu g1 (k:=256) (N6 _)
  have hw:=Zlb g1 (vs:=Hx chars) rfl (Zvd _)
  have hg:=Zn g1 (o:= .cells 197 true (Hx chars))
  simp[go_sem,g2,RO.run,WO.run,hr,N6,hw,Zt,Qn,Jk,Lu hg (k:=256) (N6 _)]
  exact hx.Ma (f1.trans (Frm.set f1.wf g1) (by simp)) (by simp)
theorem Zi2 (H:B.Yb T) (hwf:st.Wf) {q:Nat} {b:Bool} {chars:List UInt8} (hq:Zh st.h q=some (.cells 197 b (Hx chars))) (c:UInt8):Z9 T st (.fn 146 [] []) [.ptr q 0,.int .u8 c.toNat] (.bool (decide (c∈chars))):=by
 refine Zm H.e H.f rfl ?_
 have hlt:(c.toNat:Int)<256:=by have:=c.toNat_lt;omega
 have hr:Q5 st.h q c.toNat=some (.bool (decide (c∈chars))):=by simp[Q5,hq,Zr5]
 simp[B.Ju,go_sem,hlt,RO.run,hr,Ext.refl hwf]
def Mn (chars s:List UInt8):Bool:=s.any fun c=>decide (c∈chars)
theorem Zv8 (H:B.Yb T) {s chars:List UInt8} (hlen:s.length<9223372036854775807) {q:Nat} {b:Bool} (st0:St) (hq0:Zh st0.h q=some (.cells 197 b (Hx chars))) (hw0:st0.Wf):∀(m i:Nat) (e:Env) (st1:St),i+m=s.length→Ext st0 st1→
  Zl e 0= .str s→Zl e 6= .ptr q 0→Zl e 8= .int .i64 i→
  Res (run T (.loop B.W3) e st1) fun x e' s'=>Ext st0 s'∧((x= .exit 0∧Mn chars (s.drop i)=false)∨(x= .ret∧Mn chars (s.drop i)=true∧∃j:Nat,Zl e' 4= .int .i64 j)):=by
 intro m
 induction m with
 | zero=>
   intro i e st1 hi hx g0 g6 g8
   have hil:i=s.length:=by omega
   subst hil
   rw[Zs]
   simp[B.W3,go_sem,g0,g6,g8,hx,Mn]
 | succ m ih=>
   intro i e st1 hi hx g0 g6 g8
   have hil:i<s.length:=by omega
   have hil':(i:Int)<s.length:=by omega
   obtain⟨c,hc,hd⟩:=Mt hil
   have hcall:=Zi2 H hx.wf (hx.get hw0 hq0) c
   have e1:IntKind.i64.wrap ((i:Int)+1)=((i+1:Nat):Int):=Zo (by omega) (by omega)
   rw[Zs]
   simp[B.W3,go_sem,g0,g6,g8,hil',hc]
   refine hcall.use fun s1 hs1=> ?_
   by_cases hin:c∈chars
   ·simp[go_sem,hin,hd,Mn,hx.trans hs1]
    exact⟨i,rfl⟩
   ·have hany:Mn chars (s.drop i)=Mn chars (s.drop (i+1)):=by rw[hd];simp[Mn,hin]
    simp only[hany]
    simp[go_sem,hin]
    refine(ih (i+1) _ s1 (by omega) (hx.trans hs1) ?_ ?_ ?_).mono fun x e' s' h=>h
    ·simp[go_sem]
    ·simp[go_sem]
    ·simp[go_sem,e1]
theorem Zua (H:B.V7 T) {s chars:List UInt8} (ha:Zgr chars) (hcl:chars.length<1000000000) (hlen:s.length<9223372036854775807) (st0:St) {q:Nat}:∀(m p:Nat) (e:Env) (st1:St),s.length≤p+m→p≤s.length→Frm [q] st0 st1→Zh st1.h q=some (.iter s p)→
  Zl e 1= .str chars→Zl e 45= .ptr q 0→
  Res (run T (.loop B.Yv) e st1) fun x e' s'=>Frm [q] st0 s'∧((x= .exit 2∧Mn chars (s.drop p)=false)∨(x= .ret∧Mn chars (s.drop p)=true∧∃j:Nat,Zl e' 4= .int .i64 j)):=by
 intro m
 induction m with
 | zero=>
   intro p e st1 hi hple hf hq g1 g45
   have hp:¬p<s.length:=by omega
   rw[Zs,List.drop_of_length_le (by omega)]
   simp[B.Yv,go_sem,g1,g45,WO.run,hq,hp,hf,Mn]
 | succ m ih=>
   intro p e st1 hi hple hf hq g1 g45
   by_cases hp:p<s.length
   ·obtain⟨c,hc,hd⟩:=Mt hp
    rw[Zs]
    by_cases h128:c.toNat<128
    ·have hr:=Zr0 hc h128
     have f1:=hf.trans (Frm.set hf.wf hq (o:= .iter s (p+1))) (by simp)
     have hq1:=Zn hq (o:= .iter s (p+1))
     have hcall:=Zlu (st:=⟨Z7 st1.h q (.iter s (p+1)),st1.nx⟩) H f1.wf (chars:=chars) h128
     simp[B.Yv,go_sem,g1,g45,WO.run,hq,hp,hr]
     refine hcall.use fun s1 hs1=> ?_
     have f2:=f1.trans (hs1.fr [q]) (by simp)
     by_cases hin:c∈chars
     ·have h0:=(H8 chars c).2 hin
      have hany:Mn chars (s.drop p)=true:=by rw[hd];simp[Mn,hin]
      simp[go_sem,h0,hany,f2]
      exact⟨p,rfl⟩
     ·have h0:¬0≤Lib.indexByte chars c:=fun h=>hin ((H8 chars c).1 h)
      have hany:Mn chars (s.drop p)=Mn chars (s.drop (p+1)):=by rw[hd];simp[Mn,hin]
      simp only[hany]
      simp[go_sem,h0]
      refine(ih (p+1) _ s1 (by omega) (by omega) f2 (hs1.get f1.wf hq1) ?_ ?_).mono fun x e' s' h=>h
      ·simp[go_sem]
      ·simp[go_sem]
    ·obtain⟨r1,r2,r3,r4,r5⟩:=Zws hc (by omega)
     generalize hR:G4 s p=R at r1 r2 r3 r4 r5
     have f1:=hf.trans (Frm.set hf.wf hq (o:= .iter s (p+R.2))) (by simp)
     have hq1:=Zn hq (o:= .iter s (p+R.2))
     have hcall:=Zjw (st:=⟨Z7 st1.h q (.iter s (p+R.2)),st1.nx⟩) H f1.wf (chars:=chars) ha hcl (r:=(R.1:Int)) (by omega)
     have hany:Mn chars (s.drop p)=Mn chars (s.drop (p+R.2)):=by
      have:s.drop p=(s.drop p).take R.2++s.drop (p+R.2):=by rw[←List.drop_drop,List.take_append_drop]
      rw[this]
      simp only[Mn,List.any_append]
      have hz:((s.drop p).take R.2).any (fun c=>decide (c∈chars))=false:=by
       rw[List.any_eq_false]
       intro d hd
       obtain⟨j,hj⟩:=List.mem_iff_getElem?.1 hd
       rw[List.getElem?_take]at hj
       split at hj
       ·rename_i hjl
        rw[List.getElem?_drop]at hj
        have:=r5 j hjl d hj
        intro hin
        have:=ha d (by simpa using hin)
        omega
       ·cases hj
      rw[hz,Bool.false_or]
     simp only[hany]
     simp[B.Yv,go_sem,g1,g45,WO.run,hq,hp,hR]
     refine hcall.use fun s1 hs1=> ?_
     have f2:=f1.trans (hs1.fr [q]) (by simp)
     simp[go_sem]
     refine(ih (p+R.2) _ s1 (by omega) r4 f2 (hs1.get f1.wf hq1) ?_ ?_).mono fun x e' s' h=>h
     ·simp[go_sem]
     ·simp[go_sem]
   ·rw[Zs,List.drop_of_length_le (by omega)]
    simp[B.Yv,go_sem,g1,g45,WO.run,hq,hp,hf,Mn]
theorem Zog (H:B.Rm T) (hwf:st.Wf) {s chars:List UInt8} (ha:Zgr chars) (h2:2≤chars.length) (hcl:chars.length<1000000000) (hlen:s.length<9223372036854775807):
  Qt (call T (.fn 141 [] []) [.str s,.str chars] st) fun v s'=>Ext st s'∧∃i:Int,v= .int .i64 i∧(0≤i↔Mn chars s=true):=by
 refine Zw H.e H.f rfl ?_
 have hne:Uv chars []=false:=by cases chars with | nil=>simp at h2 | cons=>rfl
 have h1:¬(chars.length:Int)=1:=by omega
 have h1':¬chars.length=1:=by omega
 have h88:∀st:St,st.Wf→Z9 T st (.fn 144 [] []) [.int .i64 s.length] (.bool (decide (8<(s.length:Int)))):=fun st hw=>by
  refine Zm H.strings_shouldUseASCIISet.e H.strings_shouldUseASCIISet.f rfl ?_
  simp[B.strings_shouldUseASCIISet,go_sem,Ext.refl hw]
 have h0:List.replicate 256 (AV.bool false)=Hx []:=Zr6
 simp only[B.strings_IndexAny,h0]
 simp[go_sem,hne,h1,h1']
 refine(h88 st hwf).use fun s1 hs1=> ?_
 by_cases h8:8<(s.length:Int)
 ·simp[go_sem,h8]
  refine(Zl6 H.strings_makeASCIISet hs1.wf ha hcl).use fun s2 hs2=> ?_
  have x2:=hs1.trans hs2
  have hxn:=Ext.new x2.wf (.cells 197 false (Hx chars))
  have hw:=Zlb (h:=(s2.nx,.cells 197 false (Hx []))::s2.h) (n:=s2.nx) (ty:=197) (l:=false) (cs:=Hx []) (vs:=Hx chars) (by simp[Zg]) (by rw[N6,N6]) (Zvd _)
  rw[Zak,if_pos rfl]at hw
  simp[go_sem,NO.run,WO.run,N6,hw]
  refine(Zv8 H.Ju (chars:=chars) hlen ⟨(s2.nx,.cells 197 false (Hx chars))::s2.h,s2.nx+1⟩ (q:=s2.nx) (b:=false) (by simp[Zg]) hxn.wf s.length 0 _ _ (by simp) (.refl hxn.wf) ?_ ?_ ?_).mono ?_
  ·simp[go_sem]
  ·simp[go_sem]
  ·simp[go_sem]
  ·have x3:=x2.trans hxn
   rintro x e s' ⟨hx,⟨rfl,h⟩ | ⟨rfl,h,j,g⟩⟩
   ·rw[List.drop_zero]at h
    simp[go_sem]
    exact⟨(x3.trans hx).Zb,by simp[h]⟩
   ·rw[List.drop_zero]at h
    simp[go_sem,g]
    exact⟨(x3.trans hx).Zb,by simp[h]⟩
 ·have hxn:=Ext.new hs1.wf (.iter s 0)
  simp[go_sem,h8,NO.run]
  refine(Zua H.Kq ha hcl hlen ⟨(s1.nx,.iter s 0)::s1.h,s1.nx+1⟩ (q:=s1.nx) s.length 0 _ _ (by omega) (by omega) (.refl hxn.wf _) (by simp[Zg]) ?_ ?_).mono ?_
  ·simp[go_sem]
  ·simp[go_sem]
  ·have x3:=hs1.trans hxn
   rintro x e s' ⟨hf,⟨rfl,h⟩ | ⟨rfl,h,j,g⟩⟩
   ·rw[List.drop_zero]at h
    simp[go_sem]
    exact⟨(x3.Ma hf (by intro n hn;have:=hs1.nx;simp at hn;omega)).Zb,by simp[h]⟩
   ·rw[List.drop_zero]at h
    simp[go_sem,g]
    exact⟨(x3.Ma hf (by intro n hn;have:=hs1.nx;simp at hn;omega)).Zb,by simp[h]⟩
theorem Zdp (H:B.Ls T) (hwf:st.Wf) {s chars:List UInt8} (ha:Zgr chars) (h2:2≤chars.length) (hcl:chars.length<1000000000) (hlen:s.length<9223372036854775807):
  Z9 T st (.fn 98 [] []) [.str s,.str chars] (.bool (Mn chars s)):=by
 refine Zm H.e H.f rfl ?_
 simp[B.strings_ContainsAny,go_sem]
 refine(Zog H.strings_IndexAny hwf ha h2 hcl hlen).mono ?_
 rintro v s1 ⟨hx,i,rfl,hi⟩
 simp[go_sem,hx]
 rw[Bool.eq_iff_iff]
 simpa using hi
end Go.Ev

/- lex.Number told. -/
namespace Go.Ev
open Go
variable {T : Tab} {st : St}
def Nx (c:UInt8):Bool:=decide (48≤c.toNat) && decide (c.toNat≤57)
def Zg3 (c:UInt8):Bool:=decide (c=101) || decide (c=69)
def J6:Bool→Bool→List UInt8→List UInt8
 | _,_,[]=>[]
 | pd,Gx,c::r=>if(Gx && !Zg3 c)=true∧Nx c=true∧pd=true then J6 true (Gx && !Zg3 c) r else c::J6 (Nx c) (Gx && !Zg3 c) r
theorem Zpe {s:List UInt8} (hs:s.length<4000000000000000000) (st0:St) (hwf:st0.Wf):∀(m i:Nat) (acc:List UInt8) (pd Gx:Bool) (e:Env),i+m=s.length→(i=0→pd=false)→(∀c,0<i→s[i - 1]? =some c→Nx c=pd)→acc.length≤41→
  Zl e 0= .str s→Zl e 3= .str acc→Zl e 4= .bool Gx→Zl e 10= .int .i64 s.length→Zl e 11= .int .i64 i→
  Res (run T (.loop B.Qj) e st0) fun x e' s'=>s'=st0∧((x= .exit 0∧Zl e' 3= .str (acc++J6 pd Gx (s.drop i))∧(acc++J6 pd Gx (s.drop i)).length≤41)∨(x= .ret∧Zl e' 2= .bool false∧41<(acc++J6 pd Gx (s.drop i)).length)):=by
 intro m
 induction m with
 | zero=>
   intro i acc pd Gx e hi hp0 hp hacc g0 g3 g4 g10 g11
   have hil:i=s.length:=by omega
   subst hil
   rw[Zs]
   simp[B.Qj,go_sem,g0,g3,g4,g10,g11,J6]
   omega
 | succ m ih=>
   intro i acc pd Gx e hi hp0 hp hacc g0 g3 g4 g10 g11
   have hil:i<s.length:=by omega
   have hil':(i:Int)<s.length:=by omega
   obtain⟨c,hc,hd⟩:=Mt hil
   have e1:IntKind.i64.wrap ((i:Int)+1)=((i+1:Nat):Int):=Zo (by omega) (by omega)
   have hp':∀d,0<i+1→s[i+1 - 1]? =some d→Nx d=Nx c:=fun d _ h=>by rw[Nat.add_sub_cancel,hc]at h;cases h;rfl
   obtain⟨m2,hm2⟩:∃m2,m2=(Gx && !Zg3 c):=⟨_,rfl⟩
   have hsh:J6 pd Gx (s.drop i)=if m2=true∧Nx c=true∧pd=true then J6 true m2 (s.drop (i+1))else c::J6 (Nx c) m2 (s.drop (i+1)):=by
    rw[hd,J6,hm2]
   have hsub:=Ziw (s:=s) (i:=i) (j:=(i:Int)+1) (k:= .i64) (k':= .i64) (by omega) (by omega) (by omega)
   have hone:(s.drop i).take 1=[c]:=by rw[hd];rfl
   have ht:((i:Int)+1).toNat - ((i:Int)).toNat=1:=by omega
   rw[ht,Int.toNat_natCast,hone]at hsub
   have e2:IntKind.i64.wrap ((i:Int)+1)=(i:Int)+1:=Zo (by omega) (by omega)
   have hx1:((c.toNat:Int)=101)↔c=101:=⟨fun h=>UInt8.toNat_inj.1 (by have:(101:UInt8).toNat=101:=rfl;omega),fun h=>by subst h;rfl⟩
   have hx2:((c.toNat:Int)=69)↔c=69:=⟨fun h=>UInt8.toNat_inj.1 (by have:(69:UInt8).toNat=69:=rfl;omega),fun h=>by subst h;rfl⟩
   have d1:((48:Int)≤c.toNat)↔48≤c.toNat:=by omega
   have d2:((c.toNat:Int)≤57)↔c.toNat≤57:=by omega
   have n101:(101:UInt8).toNat=101:=rfl
   have n69:(69:UInt8).toNat=69:=rfl
   have hlen:acc.length+1<4611686018427387904:=by omega
   have full:J6 pd Gx (s.drop i)=c::J6 (Nx c) m2 (s.drop (i+1))→40<acc.length→41<(acc++J6 pd Gx (s.drop i)).length:=fun h1 h2=>by rw[h1];simp;omega
   have next:J6 pd Gx (s.drop i)=c::J6 (Nx c) m2 (s.drop (i+1))→¬40<acc.length→∀(e':Env),Zl e' 0= .str s→Zl e' 3= .str (acc++[c])→Zl e' 4= .bool m2→Zl e' 10= .int .i64 s.length→Zl e' 11= .int .i64 ((i:Int)+1)→
     Res (run T (.loop B.Qj) e' st0) fun x e' s'=>s'=st0∧((x= .exit 0∧Zl e' 3= .str (acc++J6 pd Gx (s.drop i))∧(acc++J6 pd Gx (s.drop i)).length≤41)∨(x= .ret∧Zl e' 2= .bool false∧41<(acc++J6 pd Gx (s.drop i)).length)):=by
    intro h1 h2 e' a0 a3 a4 a10 a11
    have:=ih (i+1) (acc++[c]) (Nx c) m2 e' (by omega) (by omega) hp' (by simp;omega) a0 a3 a4 a10 (by rw[a11];rfl)
    rw[List.append_assoc,List.singleton_append,←h1]at this
    exact this
   have skip:J6 pd Gx (s.drop i)=J6 (Nx c) m2 (s.drop (i+1))→∀(e':Env),Zl e' 0= .str s→Zl e' 3= .str acc→Zl e' 4= .bool m2→Zl e' 10= .int .i64 s.length→Zl e' 11= .int .i64 ((i:Int)+1)→
     Res (run T (.loop B.Qj) e' st0) fun x e' s'=>s'=st0∧((x= .exit 0∧Zl e' 3= .str (acc++J6 pd Gx (s.drop i))∧(acc++J6 pd Gx (s.drop i)).length≤41)∨(x= .ret∧Zl e' 2= .bool false∧41<(acc++J6 pd Gx (s.drop i)).length)):=by
    intro h1 e' a0 a3 a4 a10 a11
    have:=ih (i+1) acc (Nx c) m2 e' (by omega) (by omega) hp' hacc a0 a3 a4 a10 (by rw[a11];rfl)
    rw[←h1]at this
    exact this
   clear ih hp'
   generalize hTG:acc++J6 pd Gx (s.drop i)=TG at full next skip⊢
   rw[Zs]
   by_cases hE:Zg3 c=true
   ·
    have hm2f:m2=false:=by rw[hm2,hE];simp
    subst hm2f
    simp only[Bool.false_eq_true,false_and,if_false]at hsh
    have hcE:c=101∨c=69:=by simpa [Zg3] using hE
    have hcv:(c.toNat:Int)=101∨(¬(c.toNat:Int)=101∧(c.toNat:Int)=69):=by rcases hcE with rfl | rfl <;> omega
    by_cases hf:40<acc.length
    ·have hf':(40:Int)<acc.length:=by omega
     have hfin:=full hsh hf
     rcases hcv with h101 | ⟨h101,h69⟩
     ·simp[B.Qj,go_sem,g0,g3,g4,g10,g11,hil',hc,h101,hf',hfin]
     ·simp[B.Qj,go_sem,g0,g3,g4,g10,g11,hil',hc,h101,h69,hf',hfin]
    ·have hf':¬(40:Int)<acc.length:=by omega
     rcases hcv with h101 | ⟨h101,h69⟩
     ·simp[B.Qj,go_sem,g0,g3,g4,g10,g11,hil',hc,h101,hf',e2,hsub,hlen]
      refine next hsh hf _ ?_ ?_ ?_ ?_ ?_ <;> simp[go_sem]
     ·simp[B.Qj,go_sem,g0,g3,g4,g10,g11,hil',hc,h101,h69,hf',e2,hsub,hlen]
      refine next hsh hf _ ?_ ?_ ?_ ?_ ?_ <;> simp[go_sem]
   ·have hEf:Zg3 c=false:=by simpa using hE
    have hm2f:m2=Gx:=by rw[hm2,hEf];simp
    subst hm2f
    have hcn:¬c=101∧¬c=69:=by simpa [Zg3] using hE
    have h101:¬(c.toNat:Int)=101:=fun h=>hcn.1 (hx1.1 h)
    have h69:¬(c.toNat:Int)=69:=fun h=>hcn.2 (hx2.1 h)
    by_cases hdg:Nx c=true
    ·have hdg':48≤c.toNat∧c.toNat≤57:=by simpa [Nx] using hdg
     have h48:(48:Int)≤c.toNat:=by omega
     have h57:(c.toNat:Int)≤57:=by omega
     cases hmm:m2 with
     | false=>
       rw[hmm]at hsh g4
       simp only[Bool.false_eq_true,false_and,if_false]at hsh
       rw[hmm]at full next skip
       by_cases hf:40<acc.length
       ·have hf':(40:Int)<acc.length:=by omega
        have hfin:=full hsh hf
        simp[B.Qj,go_sem,g0,g3,g4,g10,g11,hil',hc,h101,h69,h48,h57,hf',hfin]
       ·have hf':¬(40:Int)<acc.length:=by omega
        simp[B.Qj,go_sem,g0,g3,g4,g10,g11,hil',hc,h101,h69,h48,h57,hf',e2,hsub,hlen]
        refine next hsh hf _ ?_ ?_ ?_ ?_ ?_ <;> simp[go_sem]
     | true=>
       rw[hmm]at hsh g4
       rw[hmm]at full next skip
       simp only[hdg,true_and]at hsh
       by_cases hi0:0<i
       ·have hi0':(0:Int)<i:=by omega
        have hi1:(1:Int)≤i:=by omega
        obtain⟨d,hd',_⟩:=Mt (s:=s) (i:=i - 1) (by omega)
        have hpd:=hp d hi0 hd'
        have e3:IntKind.i64.wrap ((i:Int) - 1)=(i:Int) - 1:=Zo (by omega) (by omega)
        have t3:((i:Int) - 1).toNat=i - 1:=by omega
        cases hpv:pd with
        | true=>
          rw[hpv]at hpd hsh
          simp only[if_true]at hsh
          rw[hpv]at full next skip
          have hdd:48≤d.toNat∧d.toNat≤57:=by simpa [Nx] using hpd
          have hd48:(48:Int)≤d.toNat:=by omega
          have hd57:(d.toNat:Int)≤57:=by omega
          rw[hdg]at skip
          simp[B.Qj,go_sem,g0,g3,g4,g10,g11,hil',hc,h101,h69,h48,h57,hi0,hi0',hi1,e3,t3,hd',hd48,hd57,e2]
          refine skip hsh _ ?_ ?_ ?_ ?_ ?_ <;> simp[go_sem]
        | false=>
          rw[hpv]at hpd hsh
          simp only[Bool.false_eq_true,if_false]at hsh
          rw[hpv]at full next skip
          have hdd:¬(48≤d.toNat∧d.toNat≤57):=by
           intro h
           have:Nx d=true:=by simp[Nx,h.1,h.2]
           rw[hpd]at this
           cases this
          rw[hdg]at full next
          by_cases hf:40<acc.length
          ·have hf':(40:Int)<acc.length:=by omega
           have hfin:=full hsh hf
           by_cases hd48:(48:Int)≤d.toNat
           ·have hd57:¬(d.toNat:Int)≤57:=by omega
            simp[B.Qj,go_sem,g0,g3,g4,g10,g11,hil',hc,h101,h69,h48,h57,hi0,hi0',hi1,e3,t3,hd',hd48,hd57,hf',hfin]
           ·simp[B.Qj,go_sem,g0,g3,g4,g10,g11,hil',hc,h101,h69,h48,h57,hi0,hi0',hi1,e3,t3,hd',hd48,hf',hfin]
          ·have hf':¬(40:Int)<acc.length:=by omega
           by_cases hd48:(48:Int)≤d.toNat
           ·have hd57:¬(d.toNat:Int)≤57:=by omega
            simp[B.Qj,go_sem,g0,g3,g4,g10,g11,hil',hc,h101,h69,h48,h57,hi0,hi0',hi1,e3,t3,hd',hd48,hd57,hf',e2,hsub,hlen]
            refine next hsh hf _ ?_ ?_ ?_ ?_ ?_ <;> simp[go_sem]
           ·simp[B.Qj,go_sem,g0,g3,g4,g10,g11,hil',hc,h101,h69,h48,h57,hi0,hi0',hi1,e3,t3,hd',hd48,hf',e2,hsub,hlen]
            refine next hsh hf _ ?_ ?_ ?_ ?_ ?_ <;> simp[go_sem]
       ·have hi0':¬(0:Int)<i:=by omega
        have hpv:=hp0 (by omega)
        rw[hpv]at hsh full next
        simp only[Bool.false_eq_true,if_false]at hsh
        rw[hdg]at full next
        by_cases hf:40<acc.length
        ·have hf':(40:Int)<acc.length:=by omega
         have hfin:=full hsh hf
         simp[B.Qj,go_sem,g0,g3,g4,g10,g11,hil',hc,h101,h69,h48,h57,hi0,hi0',hf',hfin]
        ·have hf':¬(40:Int)<acc.length:=by omega
         simp[B.Qj,go_sem,g0,g3,g4,g10,g11,hil',hc,h101,h69,h48,h57,hi0,hi0',hf',e2,hsub,hlen]
         refine next hsh hf _ ?_ ?_ ?_ ?_ ?_ <;> simp[go_sem]
    ·have hdgf:Nx c=false:=by simpa using hdg
     rw[hdgf]at hsh full next
     simp only[Bool.false_eq_true,false_and,and_false,if_false]at hsh
     have hdd:¬(48≤c.toNat∧c.toNat≤57):=by
      intro h
      have:Nx c=true:=by simp[Nx,h.1,h.2]
      rw[hdgf]at this
      cases this
     by_cases hf:40<acc.length
     ·have hf':(40:Int)<acc.length:=by omega
      have hfin:=full hsh hf
      by_cases h48:(48:Int)≤c.toNat
      ·have h57:¬(c.toNat:Int)≤57:=by omega
       cases m2 <;> simp[B.Qj,go_sem,g0,g3,g4,g10,g11,hil',hc,h101,h69,h48,h57,hf',hfin]
      ·cases m2 <;> simp[B.Qj,go_sem,g0,g3,g4,g10,g11,hil',hc,h101,h69,h48,hf',hfin]
     ·have hf':¬(40:Int)<acc.length:=by omega
      by_cases h48:(48:Int)≤c.toNat
      ·have h57:¬(c.toNat:Int)≤57:=by omega
       cases m2 <;> simp[B.Qj,go_sem,g0,g3,g4,g10,g11,hil',hc,h101,h69,h48,h57,hf',e2,hsub,hlen] <;> (refine next hsh hf _ ?_ ?_ ?_ ?_ ?_ <;> simp[go_sem])
      ·cases m2 <;> simp[B.Qj,go_sem,g0,g3,g4,g10,g11,hil',hc,h101,h69,h48,hf',e2,hsub,hlen] <;> (refine next hsh hf _ ?_ ?_ ?_ ?_ ?_ <;> simp[go_sem])
def Zwg (s:List UInt8):Bool:= !decide (41<(J6 false true s).length) && (decide ((Hu (J6 false true s)).2=0) || decide ((Hu (J6 false true s)).2=6))
theorem Zmb (H:B.Fv T) (hwf:st.Wf) {s:List UInt8} (hs:s.length<4000000000000000000):Z9 T st (.fn 99 [] []) [.str s] (.bool (Zwg s)):=by
 refine Zm H.e H.f rfl ?_
 simp[B.Rz,go_sem]
 refine(Zpe hs st hwf s.length 0 [] false true _ (by simp) (fun _=>rfl) (fun _ h=>by omega) (by simp) ?_ ?_ ?_ ?_ ?_).mono ?_
 ·simp[go_sem]
 ·simp[go_sem]
 ·simp[go_sem]
 ·simp[go_sem]
 ·simp[go_sem]
 ·simp only[List.drop_zero,List.nil_append]
  rintro x e s' ⟨rfl,⟨rfl,h1,h2⟩ | ⟨rfl,h1,h2⟩⟩
  ·simp[go_sem,h1]
   refine(Zg9 H.Xz hwf).use fun s1 hs1=> ?_
   have h2':¬41<(J6 false true s).length:=by omega
   by_cases he:(Hu (J6 false true s)).2=0
   ·simp[go_sem,Zwg,h2,h2',he,hs1]
   ·simp[go_sem,Zwg,h2,h2',he,hs1]
  ·simp[go_sem,h1,Zwg,h2,Ext.refl hwf]
end Go.Ev

/- lex.Number, lex.Word told. -/
namespace Go.Ev
open Go
variable {T : Tab} {st : St}
abbrev Tk:=Int×Int×Int
def toA (t:Tk):AV:=X5 t.1 t.2.1 [] t.2.2
def Zz0 (n:Int) (len:Nat):Tk:=if 40<len∨n< -2147483648∨2147483647<n then(0,0,26)else(1,n,0)
theorem Zuk (n:Int) (len:Nat):To n len=toA (Zz0 n len):=by unfold To Zz0;split <;> rfl
def Zk9 (s:List UInt8):Tk:=if(Uk 10 (Bs s).1).2=true then Zz0 ((Bs s).2*(Uk 10 (Bs s).1).1) s.length else(0,0,5)
theorem Zw7 (s:List UInt8):Zk8 s=toA (Zk9 s):=by
 unfold Zk8 Zk9
 split
 ·exact Zuk _ _
 ·rfl
def Zks (s:List UInt8):Tk:=
 if(Nt 35 s).2.2=false∨(Uk 10 (Nt 35 s).1).2=false∨2<(Nt 35 s).1.length∨(Uk 10 (Nt 35 s).1).1<2∨36<(Uk 10 (Nt 35 s).1).1 then(0,0,5)
 else if(Uk (Uk 10 (Nt 35 s).1).1 (Nt 35 s).2.1).2=true then Zz0 (Uk (Uk 10 (Nt 35 s).1).1 (Nt 35 s).2.1).1 s.length
 else(0,0,5)
theorem Zwk (s:List UInt8):Zkr s=toA (Zks s):=by
 unfold Zkr Zks
 split
 ·rfl
 ·split
  ·exact Zuk _ _
  ·rfl
def Zs4 (s:List UInt8):Tk:=if Mn [46,101,69] s=false∨Zwg s=false then(0,0,5)else if(Hu s).2=0 then(2,(Hu s).1,0)else(0,0,26)
theorem Zi5 (H:B.Lo T) (hwf:st.Wf) {s:List UInt8} (hs:s.length<4000000000000000000):Z9 T st (.fn 77 [] []) [.str s] (toA (Zs4 s)):=by
 refine Zm H.e H.f rfl ?_
 have hx:=Ext.new hwf (.cells 134 true [.int .i64 0,.int .i64 0,.str []])
 have hg:Zh ((st.nx,Qb.cells 134 true [.int .i64 0,.int .i64 0,.str []])::st.h) st.nx=some (.cells 134 true [.int .i64 0,.int .i64 0,.str []]):=by simp[Zg]
 have hasc:Zgr [46,101,69]:=by intro c hc;simp at hc;rcases hc with rfl | rfl | rfl <;> decide
 simp[B.Yr,go_sem,NO.run]
 refine(Zdp H.strings_ContainsAny hx.wf hasc (by simp) (by simp) (by omega)).use fun s1 hs1=> ?_
 have e1:=hx.trans hs1
 have g1:=hs1.get hx.wf hg
 cases ha:Mn [46,101,69] s with
 | false=>
   simp[go_sem,V4 g1,WO.run,Zt,Qn,Jk,RO.run,Ve (Zn g1),toA,Zs4,ha,X5,R7]
   exact e1.Vk g1 (Nat.le_refl _)
 | true=>
   simp[go_sem]
   refine(Zmb H.Rz e1.wf hs).use fun s2 hs2=> ?_
   have e2:=e1.trans hs2
   have g2:=hs2.get e1.wf g1
   cases hp:Zwg s with
   | false=>
     simp[go_sem,V4 g2,WO.run,Zt,Qn,Jk,RO.run,Ve (Zn g2),toA,Zs4,ha,hp,X5,R7]
     exact e2.Vk g2 (Nat.le_refl _)
   | true=>
     simp[go_sem]
     refine(Zg9 H.Xz e2.wf).use fun s3 hs3=> ?_
     have e3:=e2.trans hs3
     have g3:=hs3.get e2.wf g2
     by_cases he:(Hu s).2=0
     ·simp[go_sem,he,V4 g3,WO.run,Zt,Qn,Jk,RO.run,Ve (Zn g3),toA,Zs4,ha,hp,X5,R7]
      exact e3.Vk g3 (Nat.le_refl _)
     ·simp[go_sem,he,V4 g3,WO.run,Zt,Qn,Jk,RO.run,Ve (Zn g3),toA,Zs4,ha,hp,X5,R7]
      exact e3.Vk g3 (Nat.le_refl _)
def Zcz (s:List UInt8):Tk:=if(Zk9 s).2.2≠5 then Zk9 s else if(Zks s).2.2≠5 then Zks s else Zs4 s
theorem Zo9 (H:B.Om T) (hwf:st.Wf) {s:List UInt8} (hs:s.length<4000000000000000000):Z9 T st (.fn 63 [] []) [.str s] (toA (Zcz s)):=by
 refine Zm H.e H.f rfl ?_
 have hx:=Ext.new hwf (.cells 134 true [.int .i64 0,.int .i64 0,.str []])
 have hg:Zh ((st.nx,Qb.cells 134 true [.int .i64 0,.int .i64 0,.str []])::st.h) st.nx=some (.cells 134 true [.int .i64 0,.int .i64 0,.str []]):=by simp[Zg]
 have t1:=fun st (h:St.Wf st)=>Zsj (st:=st) H.Vt h (s:=s) (by omega)
 have t2:=fun st (h:St.Wf st)=>Zru (st:=st) H.Vs h (s:=s) (by omega)
 have t3:=fun st (h:St.Wf st)=>Zi5 (st:=st) H.Yr h (s:=s) hs
 simp only[Zw7,Zwk]at t1 t2
 obtain⟨w,hw⟩:∃w,w=Zk9 s:=⟨_,rfl⟩
 obtain⟨r,hr⟩:∃r,r=Zks s:=⟨_,rfl⟩
 obtain⟨d,hd⟩:∃d,d=Zs4 s:=⟨_,rfl⟩
 have hn:Zcz s=(if w.2.2≠5 then w else if r.2.2≠5 then r else d):=by rw[hw,hr,hd,Zcz]
 rw[←hw]at t1;rw[←hr]at t2;rw[←hd]at t3
 rw[hn]
 clear hn hw hr hd
 have w1:IntKind.i64.wrap 1=1:=Zo (by omega) (by omega)
 have w2:IntKind.i64.wrap 2=2:=Zo (by omega) (by omega)
 have w3:IntKind.i64.wrap 3=3:=Zo (by omega) (by omega)
 simp[B.Hk,go_sem,NO.run]
 rw[Zs]
 simp[B.Ny,go_sem]
 refine(t1 _ hx.wf).use fun s1 hs1=> ?_
 have e1:=hx.trans hs1
 have g1:=hs1.get hx.wf hg
 have hw1:=V4 g1 (k':=w.1) (n':=w.2.1) (t':=[])
 have f1:=e1.Vk g1 (o:= .cells 134 true [.int .i64 w.1,.int .i64 w.2.1,.str []]) (Nat.le_refl _)
 have g1':=Zn g1 (o:= .cells 134 true [.int .i64 w.1,.int .i64 w.2.1,.str []])
 by_cases hw5:w.2.2=5
 ·simp[go_sem,toA,X5,R7,WO.run,hw1,hw5,w1]
  rw[Zs]
  simp[B.Ny,go_sem]
  refine(t2 _ f1.wf).use fun s2 hs2=> ?_
  have e2:=f1.trans hs2
  have g2:=hs2.get f1.wf g1'
  have hw2:=V4 g2 (k':=r.1) (n':=r.2.1) (t':=[])
  have f2:=e2.Vk g2 (o:= .cells 134 true [.int .i64 r.1,.int .i64 r.2.1,.str []]) (Nat.le_refl _)
  have g2':=Zn g2 (o:= .cells 134 true [.int .i64 r.1,.int .i64 r.2.1,.str []])
  by_cases hr5:r.2.2=5
  ·simp[go_sem,toA,X5,R7,WO.run,hw2,hr5,w2]
   rw[Zs]
   simp[B.Ny,go_sem]
   refine(t3 _ f2.wf).use fun s3 hs3=> ?_
   have e3:=f2.trans hs3
   have g3:=hs3.get f2.wf g2'
   have hw3:=V4 g3 (k':=d.1) (n':=d.2.1) (t':=[])
   have f3:=e3.Vk g3 (o:= .cells 134 true [.int .i64 d.1,.int .i64 d.2.1,.str []]) (Nat.le_refl _)
   have g3':=Zn g3 (o:= .cells 134 true [.int .i64 d.1,.int .i64 d.2.1,.str []])
   have f4:=f3.Vk g3' (o:= .cells 134 true [.int .i64 d.1,.int .i64 d.2.1,.str []]) (Nat.le_refl _)
   have g4:=Zn g3' (o:= .cells 134 true [.int .i64 d.1,.int .i64 d.2.1,.str []])
   by_cases hd5:d.2.2=5
   ·simp[go_sem,toA,X5,R7,WO.run,RO.run,hw3,hd5,w3,Ve g3']
    rw[Zs]
    simp[B.Ny,go_sem,WO.run,RO.run,Ve g3',V4 g3',Ve g4,Zt,Qn,Jk,hd5]
    exact f4
   ·simp[go_sem,toA,X5,R7,WO.run,RO.run,hw3,hd5,w3,Ve g3',V4 g3',Ve g4,Zt,Qn,Jk]
    exact f4
  ·have f4:=f2.Vk g2' (o:= .cells 134 true [.int .i64 r.1,.int .i64 r.2.1,.str []]) (Nat.le_refl _)
   have g4:=Zn g2' (o:= .cells 134 true [.int .i64 r.1,.int .i64 r.2.1,.str []])
   simp[go_sem,toA,X5,R7,WO.run,RO.run,hw2,hr5,Ve g2',V4 g2',Ve g4,Zt,Qn,Jk]
   exact f4
 ·have f4:=f1.Vk g1' (o:= .cells 134 true [.int .i64 w.1,.int .i64 w.2.1,.str []]) (Nat.le_refl _)
  have g4:=Zn g1' (o:= .cells 134 true [.int .i64 w.1,.int .i64 w.2.1,.str []])
  simp[go_sem,toA,X5,R7,WO.run,RO.run,hw1,hw5,Ve g1',V4 g1',Ve g4,Zt,Qn,Jk]
  exact f4
end Go.Ev

/- The reference's count; Word. -/
namespace Go.Ev
open Go
variable {T : Tab} {st : St}
def wordT (s:List UInt8):Int×Int×List UInt8×Int:=
 if s=[]∨Zt6 s=false then(0,0,[],5)
 else if(Zcz s).2.2≠5 then((Zcz s).1,(Zcz s).2.1,[],(Zcz s).2.2)
 else if 100<s.length then(0,0,[],26)else(3,0,s,0)
end Go.Ev

/- strings.Builder; Quote. -/
namespace Go.Ev
open Go
variable {T : Tab} {st : St}
def u8s (l:List UInt8):List AV:=l.map fun c=> .int .u8 ((c.toNat:Nat):Int)
theorem Zas (l:List UInt8):(u8s l).length=l.length:=by simp[u8s]
theorem Zzi (l:List UInt8) (c:UInt8):u8s (l++[c])=u8s l++[.int .u8 (c.toNat:Int)]:=by simp[u8s]
def Grow (st0 s:St) (v:AV) (l:List UInt8):Prop:=Sl s v 5 1 l.length (u8s l)∧Dv [] st0 v∧NK v
theorem Grow.nil (st0 s:St):Grow st0 s .Zc []:=⟨.nil _ _ _,.nil _ _,fun _ _ _ _ h=>by cases h⟩
theorem Grow.ge {st0 s:St} {v:AV} {l:List UInt8} (a:Grow st0 s v l):∀n∈v.nms,st0.nx≤n:=fun n hn=>by
 rcases a.2.1 n hn with h | h
 ·cases h
 ·exact h
theorem Grow.Ma {st0 s s':St} {v:AV} {l:List UInt8} {S:List Nat} (a:Grow st0 s v l) (f:Frm S s s') (hw:s.Wf) (hn:∀n∈v.nms,n∉S):Grow st0 s' v l:=⟨a.1.Ma f hw hn,a.2.1,a.2.2⟩
theorem Grow.ext {st0 s s':St} {v:AV} {l:List UInt8} (a:Grow st0 s v l) (f:Ext s s') (hw:s.Wf):Grow st0 s' v l:=a.Ma (f.fr []) hw (by simp)
theorem Grow.Zb {st0 s:St} {v:AV} {l:List UInt8} {c:Nat} (a:Grow st0 s v l) (hw:s.Wf):Grow st0 ⟨Go.Ev.Zb c s.h,s.nx⟩ v l:=⟨a.1.Zb hw,a.2.1,a.2.2⟩
theorem Grow.nms {st0 s:St} {v:AV} {l:List UInt8} (a:Grow st0 s v l) {n:Nat} (h:n∈v.nms):(∃ty,Zh s.h n=some (.cells ty false (u8s l)))∨Zh s.h n=some (.buf 5 1 (u8s l)):=by
 obtain⟨⟨m,a⟩,_,_⟩:=a
 rcases a with ⟨h1,h2,h3⟩ | ⟨h1,h2,h3⟩ | ⟨ty',h1,h2,h3⟩ <;> rw[h1]at h <;> simp[AV.nms]at h <;> subst h
 ·exact .inr h2
 ·exact .inl ⟨_,h2⟩
theorem Grow.push {st0 s1:St} (hF:st0.nx≤s1.nx) (hw:s1.Wf) {v:AV} {l:List UInt8} {c:UInt8} {k:Nat} (hk:0<k) (a:Grow st0 s1 v l) (hl:l.length<35184372088831):
  Qt (Vf 5 1 1 ⟨(s1.nx,.cells 5 false [.int .u8 (c.toNat:Int)])::s1.h,s1.nx+k⟩ v (.slice s1.nx 0 1 (.known 1))) fun v' s=>Grow st0 s v' (l++[c])∧Frm v.nms s1 s:=by
 obtain⟨a1,a2,a3⟩:=a
 have xa:=Ext.newA hw (.cells 5 false [.int .u8 (c.toNat:Int)]) hk
 have hap:=Sl.append (x:= .slice s1.nx 0 1 (.known 1)) (j:=1) (new:=[.int .u8 (c.toNat:Int)]) (b:=1) (Frm.refl xa.wf v.nms) (fun n h=> .inl h) (a1.ext xa hw)
  (.inr ⟨_,_,_,rfl,Lu (ty:=5) (l:=false) (by simp[Zg]) rfl⟩) (by simp[AV.sc]) (by omega) (by omega) (.inl (by omega))
 refine(hap.Zxm (fun _ _ h=>C4 h a3)).mono ?_
 rintro v2 s2 ⟨⟨k1,k2,k3,_⟩,hnk2⟩
 refine⟨⟨by rw[Zzi];simpa using k1,fun n hn=> ?_,hnk2⟩,(xa.fr v.nms).trans k2 (fun n h=> .inl h)⟩
 rcases k3 n hn with h | h
 ·exact a2 n h
 ·simp at h;exact .inr (by omega)
theorem Grow.sc {st0 s:St} {v:AV} {l:List UInt8} (a:Grow st0 s v l):v.sc=true:=by
 obtain⟨⟨m,a⟩,_,_⟩:=a
 rcases a with ⟨h1,h2,h3⟩ | ⟨h1,h2,h3⟩ | ⟨ty',h1,h2,h3⟩ <;> rw[h1] <;> rfl
theorem Grow.Yg {st0 s:St} {v:AV} {l:List UInt8} (a:Grow st0 s v l):Go.Ev.Yg v=[v]:=by
 obtain⟨⟨m,a⟩,_,_⟩:=a
 rcases a with ⟨h1,h2,h3⟩ | ⟨h1,h2,h3⟩ | ⟨ty',h1,h2,h3⟩ <;> rw[h1] <;> rfl
theorem Grow.apart {st0 s:St} {v x:AV} {l:List UInt8} (a:Grow st0 s v l) {q ty:Nat} {cs:List AV} (hq:Zh s.h q=some (.cells ty false cs)) (hx:x∈cs) (hn:∀k n,x≠.int k n):q∉v.nms:=fun hm=>by
 have hz:∀l,x∉u8s l:=fun l h=>by
  simp only[u8s,List.mem_map]at h
  obtain⟨c,_,h⟩:=h
  exact hn _ _ h.symm
 rcases a.nms hm with ⟨t,h⟩ | h <;> rw[h]at hq <;> injection hq with hq <;> injection hq
 rename_i _ _ e
 rw[←e]at hx
 exact hz _ hx
theorem Ext.Zi9 {st0 s:St} (a:Ext st0 s) {c:Nat} (hc:st0.nx≤c):Ext st0 ⟨Go.Ev.Zb c s.h,s.nx⟩:=
 ⟨a.nx,a.wf.Zb _,fun n hn=>by rw[Ki (Nat.lt_of_lt_of_le hn hc),a.Zd n hn]⟩
def Bd (st0 s:St) (q:Nat) (l:List UInt8):Prop:=st0.nx≤q∧∃a v,Zh s.h q=some (.cells 84 false [a,v])∧(a= .J8∨a= .ptr q 0)∧Grow st0 s v l∧q∉v.nms
theorem Zbu (H:B.Ua T) (hwf:st.Wf) {q:Nat} {a v:AV} (hq:Zh st.h q=some (.cells 84 false [a,v])) (ha:a= .J8∨a= .ptr q 0):
  Qt (call T (.fn 109 [] []) [.ptr q 0] st) fun _ s'=>Frm [q] st s'∧Zh s'.h q=some (.cells 84 false [.ptr q 0,v]):=by
 refine Zw H.e H.f rfl ?_
 rcases ha with rfl | rfl
 ·have hw1:Jy st.h q 0 [.ptr q 0]=some (Z7 st.h q (.cells 84 false [.ptr q 0,v])):=Og hq rfl (by simp[AV.sc])
  have hr:Q5 st.h q 0=some .J8:=by simp[Q5,hq]
  have hen:=fun st=>Rn (st:=st) H.Zni.en (first:=[]) (args:=[.ptr q 0]) (cap:=[])
  have x1:=Frm.set hwf hq (o:= .cells 84 false [.ptr q 0,v])
  simp[B.Q4,go_sem,RO.run,WO.run,hr,hen,B.W5,Sg,hw1,hq]
  exact⟨x1.Zb,Qh x1.wf (Zn hq) rfl⟩
 ·simp[B.Q4,go_sem,RO.run,show Q5 st.h q 0=some (.ptr q 0)by simp[Q5,hq],Sg]
  exact⟨((Ext.refl hwf).Zb).fr _,Qh hwf hq rfl⟩
theorem Bd.ext {st0 s s':St} {q:Nat} {l:List UInt8} (b:Bd st0 s q l) (x:Ext s s') (hw:s.Wf):Bd st0 s' q l:=by
 obtain⟨h1,a,v,h2,h3,h4,h5⟩:=b
 exact⟨h1,a,v,x.get hw h2,h3,h4.ext x hw,h5⟩
theorem Zmk (H:B.J5 T) {st0:St} (hx:Ext st0 st) {q:Nat} {l:List UInt8} {c:UInt8} (b:Bd st0 st q l) (hl:l.length<35184372088831):
  Qt (call T (.fn 91 [] []) [.ptr q 0,.int .u8 (c.toNat:Int)] st) fun _ s'=>Ext st0 s'∧Bd st0 s' q (l++[c]):=by
 obtain⟨h1,a,v,h2,h3,h4,h5⟩:=b
 refine Zw H.e H.f rfl ?_
 simp[B.Ql,go_sem]
 refine(Zbu H.Q4 hx.wf h2 h3).mono ?_
 rintro _ s1 ⟨f1,g1⟩
 have x1:Ext st0 s1:=hx.Ma f1 (by simpa using h1)
 have g4:=h4.Ma f1 hx.wf (by intro n hn h;simp at h;subst h;exact h5 hn)
 have hr:Q5 s1.h q 1=some v:=by simp[Q5,g1]
 simp[go_sem,RO.run,NO.run,hr,Bn]
 refine(g4.push x1.nx x1.wf (k:=1) (by omega) (c:=c) hl).mono ?_
 rintro v2 s2 ⟨o2,f2⟩
 have x2:=x1.Ma f2 h4.ge
 have g2:Zh s2.h q=some (.cells 84 false [.ptr q 0,v]):=f2.get x1.wf g1 h5
 have hw2:Jy s2.h q 1 [v2]=some (Z7 s2.h q (.cells 84 false [.ptr q 0,v2])):=Og g2 o2.sc (by simp)
 have f3:=Frm.set x2.wf g2 (o:= .cells 84 false [.ptr q 0,v2])
 have hap:=o2.apart g2 (x:= .ptr q 0) (by simp) (by simp)
 have g3:=Zn (o:= .cells 84 false [.ptr q 0,v2]) g2
 simp[go_sem,WO.run,o2.Yg,hw2]
 have x3:Ext st0 ⟨Z7 s2.h q (.cells 84 false [.ptr q 0,v2]),s2.nx⟩:=x2.Ma f3 (by simpa using h1)
 have o3:Grow st0 ⟨Z7 s2.h q (.cells 84 false [.ptr q 0,v2]),s2.nx⟩ v2 (l++[c]):=o2.Ma f3 x2.wf (by intro n hn h;simp at h;subst h;exact hap hn)
 refine⟨?_,h1,_,v2,Qh x3.wf g3 rfl,.inr rfl,o3.Zb x3.wf,hap⟩
 exact x3.Zi9 hx.nx
theorem Ci (H:B.J5 T) {st0:St} (hx:Ext st0 st) {q:Nat} {l:List UInt8} (c:UInt8) {n:Int} (hn:n=(c.toNat:Int)) (b:Bd st0 st q l) (hl:l.length<35184372088831):
  Qt (call T (.fn 91 [] []) [.ptr q 0,.int .u8 n] st) fun _ s'=>Ext st0 s'∧Bd st0 s' q (l++[c]):=by
 rw[hn];exact Zmk H hx b hl
theorem E4:∀l:List UInt8,W4 (u8s l)=some l
 | []=>rfl
 | c::l=>by
   have h:u8s (c::l)= .int .u8 (c.toNat:Int)::u8s l:=rfl
   rw[h]
   simp[W4,E4 l]
theorem Zuc (H:B.Wv T) {st0:St} (hx:Ext st0 st) {q:Nat} {l:List UInt8} (b:Bd st0 st q l) (hl:1≤l.length) (hl2:l.length<4000000000000000000):
  Qt (call T (.fn 92 [] []) [.ptr q 0] st) fun v s'=>v= .str l∧Ext st0 s':=by
 obtain⟨h1,a,v,h2,h3,h4,h5⟩:=b
 refine Zw H.e H.f rfl ?_
 have hr:Q5 st.h q 1=some v:=by simp[Q5,h2]
 obtain⟨⟨m,hs⟩,h6,h7⟩:=h4
 rcases hs with ⟨k1,k2,k3⟩ | ⟨k1,k2,k3⟩ | ⟨ty',k1,k2,k3⟩
 ·omega
 ·subst k1
  have xa:=hx.trans (Ext.aside hx.wf 12)
  have hm:=h6 m (by simp[AV.nms])
  simp at hm
  have f:=Frm.Ub (st:=⟨st.h,st.nx+12⟩) xa.wf m
  have x2:=xa.Ma f (by simpa using hm)
  simp only[Zas]at k3
  simp[B.Km,go_sem,RO.run,WO.run,hr,hl,k2,Zas,E4,show l.length≤9223372036854775807 by omega]
  exact x2.Zi9 hx.nx
 ·subst k1
  exact absurd rfl (h7 _ _ _ _)
end Go.Ev

/- Unquote: the source's steps. -/
namespace Go.Ev
open Go
variable {T : Tab} {st : St}
def octN:Nat→Nat→List UInt8→Nat×Nat
 | 0,n,_=>(n,0)
 | k+1,n,c::r=>if 48≤c.toNat∧c.toNat≤55 then((octN k (8*n+(c.toNat - 48)) r).1,(octN k (8*n+(c.toNat - 48)) r).2+1)else(n,0)
 | _+1,n,[]=>(n,0)
def Zaco (c:UInt8) (r:List UInt8):Nat:=if c=13∧r.head? =some 10 then 1 else 0
def letter (c:UInt8):Option UInt8:=if c=110 then some 10 else if c=114 then some 13 else if c=116 then some 9 else if c=98 then some 8 else if c=102 then some 12 else none
def esc:List UInt8→Option (List UInt8×Nat)
 | []=>none
 | c::r=>some (match letter c with
   | some o=>([o],1)
   | none=>if c=10∨c=13 then([],1+Zaco c r)else if 48≤c.toNat∧c.toNat≤55 then([UInt8.ofNat (octN 2 (c.toNat - 48) r).1],1+(octN 2 (c.toNat - 48) r).2)else([c],1))
def unq:Nat→Nat→List UInt8→List UInt8→Option (List UInt8×List UInt8)
 | 0,_,_,_=>none
 | _+1,_,[],_=>none
 | f+1,d,c::r,out=>
   if c=92 then match esc r with
    | none=>none
    | some (o,n)=>unq f d (r.drop n) (out++o)
   else if c=40 then unq f (d+1) r (out++[40])
   else if c=41 then if d=1 then some (out,r)else unq f (d - 1) r (out++[41])
   else if c=10∨c=13 then unq f d (r.drop (Zaco c r)) (out++[10])
   else unq f d r (out++[c])
end Go.Ev

/- Unquote told. -/
namespace Go.Ev
open Go
variable {T : Tab} {st : St}
def Ze9 (s:List UInt8):List UInt8×Nat×Int:=
 match s with
 | c::r=>if c=40 then match unq s.length 1 r []with
    | none=>([],0,5)
    | some (o,l)=>if 1000<o.length then([],0,26)else(o,s.length - l.length,0)
   else([],0,5)
 | []=>([],0,5)
def toU (t:List UInt8×Nat×Int):AV:= .tuple [.str t.1,.int .i64 (t.2.1:Int),.int .i64 t.2.2]
end Go.Ev

/- Valid tokens; Check. -/
namespace Go.Ev
open Go
variable {T : Tab} {st : St}
theorem Zg2 (H:B.Ii T) (hwf:st.Wf) {n:Int}:Z9 T st (.fn 110 [] []) [.int .i64 n] (.bool (decide (-2147483648≤n) && decide (n≤2147483648))):=by
 refine Zm H.e H.f rfl ?_
 by_cases h: -2147483648≤n
 ·simp[B.Rc,go_sem,h,Ext.refl hwf]
 ·simp[B.Rc,go_sem,h,Ext.refl hwf]
def Ztu (k:Int) (t:List UInt8):Bool:=decide (t.length≤100) && Zt6 t && (decide (k≠3) || (!(t == []) && decide ((Zcz t).2.2=5)))
def Zagx (k n:Int) (t:List UInt8):Bool:=decide (k=3) && (decide (n=0) && ((t == [91]) || (t == [93]) || (t == [60,60]) || (t == [62,62])))
def Zaej (k n:Int) (t:List UInt8):Bool:=
 if k=1 then decide (-2147483648≤n) && decide (n≤2147483647) && (t == [])
 else if k=2 then decide (-2147483648≤n) && decide (n≤2147483648) && (t == [])
 else if k=3∨k=4∨k=5 then Zagx k n t || (decide (n=0) && Ztu k t)
 else if k=6 then decide (n=0) && decide (t.length≤1000)
 else(decide (k=7) || decide (k=8)) && (decide (n=0) && (t == []))
end Go.Ev

/- The chapter's examples. -/
namespace Go.Ev
open Go
variable {T : Tab} {st : St}
theorem ex1:Zcz [45,48,48,55]=(1, -7,0):=by kernel_rfl
end Go.Ev

/- LexKnown told. -/
namespace Go.Ev
open Go
variable {T : Tab} {st : St}
end Go.Ev

/- LexNests told. -/
namespace Go.Ev
open Go
variable {T : Tab} {st : St}
end Go.Ev

/- Octets among the arguments: what they are, and the names of their blocks. -/
namespace Go.Ev
open Go Go.RowKit Go.ChangeShapes Go.WideShapes Go.Deep Go.Joins
theorem Zw1 (n:Nat):St.Wf ⟨[],n⟩:=⟨(fun n o h=>by cases h),(by simp)⟩
theorem wf_u8 {n:Int} (h:(Lit.int .u8 n).wf=true):0≤n∧n<256:=by
 simp[Lit.wf,IntKind.min,IntKind.max,IntKind.signed,IntKind.bits]at h
 omega
section
variable {H : Type} {enc : TypeId × Value → H} {P : Program} {w : World} {base : Nat} {spare : Nat → Bool} {held : Bool}
end
end Go.Ev

/- The reference's Unquote: its parts. -/
namespace Go.Ev
open Go
variable {T : Tab} {st : St}
end Go.Ev

/- The reference's Unquote told. -/
namespace Go.Ev
open Go
variable {T : Tab} {st : St}
end Go.Ev

/- The reference's Quote; LexQuotes told. -/
namespace Go.Ev
open Go
variable {T : Tab} {st : St}
end Go.Ev

/- The reference's reader of decimals. -/
namespace Go.Ev
open Go
variable {T : Tab} {st : St}
def Gx:Bool→List UInt8→List Nat×Nat×List UInt8
 | _,[]=>([],0,[])
 | pt,c::r=>
   if Nx c=true then((c.toNat - 48)::(Gx pt r).1,(if pt=true then 1 else 0)+(Gx pt r).2.1,(Gx pt r).2.2)
   else if c=46∧pt=false then Gx true r
   else([],0,c::r)
end Go.Ev

/- The reference's Read told. -/
namespace Go.Ev
open Go
variable {T : Tab} {st : St}
def Zv.a:Zv→Zv
 | .seq x _=>x
 | c=>c
def Zv.b:Zv→Zv
 | .seq _ y=>y
 | c=>c
theorem O3 (x y:Zv):(Zv.seq x y).a=x∧(Zv.seq x y).b=y:=⟨rfl,rfl⟩
def rb:Nat→Zv
 | 0=>B.Zhk.body
 | k+1=>(rb k).b
theorem cut {T:Tab} {c:Zv} (hc:c= .seq c.a c.b) (hA:∀l,c.a≠.Zd l) {e:Env} {Q:Ex→Env→St→Prop} (P:Ex→Env→St→Prop) (h1:Res (run T c.a e st) P) (h2:∀x e s,P x e s→Ztq T c.b Q x e s):Res (run T c e st) Q:=by
 rw[hc]
 exact Zabr P hA h1 h2
end Go.Ev

/- Digits multiplied. -/
namespace Go.Ev
open Go
variable {T : Tab} {st : St}
theorem Zacg (N:Nat):(N:Int).tmod 10=((N % 10:Nat):Int)∧(N:Int).tdiv 10=((N / 10:Nat):Int):=by
 refine⟨?_,?_⟩
 ·rw[Int.tmod_eq_emod_of_nonneg (by omega)];omega
 ·rw[Int.tdiv_eq_ediv_of_nonneg (by omega)];omega
end Go.Ev

/- The reference's Parse told. -/
namespace Go.Ev
open Go
variable {T : Tab} {st : St}
end Go.Ev

/- The reference's Number. -/
namespace Go.Ev
open Go
variable {T : Tab} {st : St}
def nb:Nat→Zv
 | 0=>B.Zdm.body
 | k+1=>(nb k).b
end Go.Ev

/- The reference's Word told. -/
namespace Go.Ev
open Go
variable {T : Tab} {st : St}
end Go.Ev

/- The plain law of numbers: ints, with and without a base. -/
namespace Go.Ev
open Go
end Go.Ev

/- The plain law of numbers: decimals are read alike. -/
namespace Go.Ev
open Go
end Go.Ev

/- The plain law of numbers: a decimal without a point or an exponent is an int. -/
namespace Go.Ev
open Go
end Go.Ev

/- The plain law of numbers: a text whose runs of digits are cut to one digit is a decimal if the whole text is. -/
namespace Go.Ev
open Go
end Go.Ev

/- The plain law of numbers: values. -/
namespace Go.Ev
open Go
end Go.Ev

/- LexNumbers: the marks, drawn into a text. -/
namespace Go.Ev
open Go
variable {T : Tab} {st : St}
end Go.Ev

/- LexNumbers told, if Number and Word are the reference's. -/
namespace Go.Ev
open Go
variable {T : Tab} {st : St}
end Go.Ev

/- The plain law of numbers: the mark's decimals and the reference's. -/
namespace Go.Ev
open Go
end Go.Ev

/- The abstract bodies of the functions, printed by a program of this work. -/
namespace Go.Ev.B
open Go
def Bu:Zv:=(.seq (.Zd [1,2,3,4,5]) (.seq (.seq (.Ze [p 37 (.Za 5),p 38 (.Zi 2 1),r 39 (.load none 38),p 40 (.lenOf true 39),p 41 (.bin .lss
 37 40),p 42 (.Za 41),pg 43 42 true (.Za 5),pg 44 42 true (.bin .lss 43 (.k (.int .i64 20))),p 45 (.pick 42 44 (.k (.bool false)))]) (.cond 45 .skip (.exit 1))) (.seq (.Zd [1,
 2,3,4,5]) (.seq (.block 2 (.seq (.Ze [p 48 (.Zi 2 1),r 49 (.load none 48),p 50 (.Za 5),p 51 (.J7 49 50),w 52 (.call (.k (.fn 68 [] [])) [51])]) (.cond 52 (.Ze [p 53 (.Za
 4),p 54 (.Zi 2 1),r 55 (.load none 54),p 56 (.Za 5),p 57 (.J7 55 56),n 58 (.Qe 5 1 [(.int .u8 0)] [(0,1,57)]),w 59 (.append 5 1 1 [(.int .u8 0)] 53 58),p 4 (.Za
 59)]) .skip))) (.seq (.Zd [1,2,3,4,5]) (.Ze [p 46 (.Za 5),p 47 (.bin .add 46 (.k (.int .i64 1))),p 5 (.Za 47)]))))))
def O5:Qa:=⟨1,[.cell 2 (some 3)],(.seq (.Ze [n 1 (.box 205 true 0),n 2 (.alloc 134 true [(.int .i64 0),(.int .i64 0),(.str [])])]) (.seq (.Ze [p 7 (.Zi
 0 1),r 8 (.load none 7),p 9 (.bin .rem 8 (.k (.int .u8 8))),p 10 (.conv .i64 9),p 11 (.bin .add (.k (.int .i64 1)) 10),p 3 (.Za 11)]) (.seq (.seq (.Ze [p 12 (.Za 3)]) (.block
 0 (.seq (.seq (.Ze [p 14 (.bin .eql 12 (.k (.int .i64 1))),p 13 (.Za 14)]) (.cond 13 .skip (.Ze [p 15 (.bin .eql 12 (.k (.int .i64 2))),p 13 (.Za 15)]))) (.cond 13 (.seq (.Ze
 [p 16 (.Za 3),p 17 (.Zi 1 1),r 18 (.load none 17),p 19 (.conv .i64 18),p 20 (.build [(.int .i64 0),(.int .i64 0),(.str [])] [(0,1,16),(1,1,19)]),w0 (.store 3 2 20)])
 .ret) (.seq (.Ze [p 22 (.bin .eql 12 (.k (.int .i64 6))),p 21 (.Za 22)]) (.cond 21 (.seq (.Ze [p 23 (.Za 3),p 24 (.Zi 2 1),r 25 (.load none 24),p 26 (.Zi 2 1),r 27 (.load
 none 26),p 28 (.lenOf true 27),p 29 (.Bl false [28,(.k (.int .i64 60))]),p 30 (.B5 25 none (some 29)),p 31 (.build [(.int .i64 0),(.int .i64 0),(.str [])] [(0,1,23),
 (2,1,30)]),w0 (.store 3 2 31)]) .ret) (.seq (.seq (.Ze [p 33 (.bin .eql 12 (.k (.int .i64 7))),p 32 (.Za 33)]) (.cond 32 .skip (.Ze [p 34 (.bin .eql 12 (.k (.int .i64 8))),p
 32 (.Za 34)]))) (.cond 32 (.seq (.Ze [p 35 (.Za 3),p 36 (.build [(.int .i64 0),(.int .i64 0),(.str [])] [(0,1,35)]),w0 (.store 3 2 36)]) .ret) .skip)))))))) (.seq (.Zd [1,
 2,3]) (.seq (.Ze [p 4 (.Za (.k .Zc))]) (.seq (.seq (.Ze [p 5 (.Za (.k (.int .i64 0)))]) (.block 1 (.loop Bu))) (.seq (.Zd [1,2,3,4]) (.seq (.Ze
 [p 60 (.Za 3),p 61 (.Za 4),r 62 (.b2s 61),p 63 (.build [(.int .i64 0),(.int .i64 0),(.str [])] [(0,1,60),(2,1,62)]),n 6 (.alloc 134 true [(.int .i64 0),(.int .i64 0),
 (.str [])]),w0 (.store 3 6 63)]) (.seq (.seq (.Ze [p 64 (.Za 3),p 65 (.bin .eql 64 (.k (.int .i64 3))),p 66 (.Za 65),rg 67 66 true (.load (some 3) 6),wg 68 66 true (.call (.k
 (.fn 129 [] [])) [67]),pg 69 66 true (.un .not 68),p 70 (.pick 66 69 (.k (.bool false)))]) (.cond 70 (.Ze [n 71 (.Qe 9 7 [(.str []),(.str []),(.str []),(.str []),(.str []),
 (.str []),(.str [])] [(0,1,(.k (.str [97]))),(1,1,(.k (.str [91]))),(2,1,(.k (.str [93]))),(3,1,(.k (.str [60,60]))),(4,1,(.k (.str [62,62]))),(5,1,(.k (.str [120,
 45,49]))),(6,1,(.k (.str [61])))]),p 72 (.Zi 0 1),r 73 (.load none 72),p 74 (.bin .quo 73 (.k (.int .u8 8))),p 75 (.bin .rem 74 (.k (.int .u8 7))),p 76 (.Zu 1 71 75),
 r 77 (.load none 76),p 78 (.Zi 2 6),w0 (.store 1 78 77)]) .skip)) (.seq (.Zd [2,6]) (.seq (.Ze [r 79 (.load (some 3) 6),w0 (.store 3 2 79)]) .ret)))))))))))⟩
def Hw:Qa:=⟨1,[.t 2,.t 3],(.seq (.Ze [n 1 (.box 3 true 0),p 2 (.Za (.k (.str []))),p 3 (.Za (.k (.int .i64 0)))]) (.seq (.Ze [p 4 (.Pz 136 [] [1]),r 5 (.load
 none 1),n 6 (.Qe 3 1 [(.int .i64 0)] [(0,1,5)]),w 7 (.call (.k (.fn 137 [] [])) [4,6]),p 8 (.Zq 0 7),p 9 (.Zq 1 7),p 2 (.Za 8),p 3 (.Za 9)]) .ret))⟩
def Df:Zv:=(.block 1 (.Ze [p 19 (.Za 6),w 20 (.call (.k (.fn 91 [] [])) [4,19])]))
def We:Zv:=(.seq (.Zd [4,7,8]) (.seq (.seq (.Ze [p 24 (.Za 7),p 25 (.bin .gtr 24 (.k (.int .i64 0))),p 26 (.Za 25),pg 27 26 false (.Za 8),p 28 (.pick
 26 (.k (.bool true)) 27)]) (.cond 28 .skip (.exit 2))) (.seq (.block 3 (.seq (.Ze [p 29 (.Za 7),p 30 (.bin .mul 29 (.k (.int .i64 10))),p 7 (.Za 30)]) (.seq (.Ze [p 31 (.Za 7),
 p 32 (.bin .quo 31 (.k (.int .i64 65536))),p 33 (.conv .u8 32),p 34 (.bin .add (.k (.int .u8 48)) 33),w 35 (.call (.k (.fn 91 [] [])) [4,34])]) (.Ze [p 36 (.Za 7),p 37 (.bin
 .rem 36 (.k (.int .i64 65536))),p 7 (.Za 37)])))) (.seq (.Zd [4,7]) (.Ze [p 8 (.Za (.k (.bool false)))])))))
def Jq:Qa:=⟨1,[.t 1,.t 2,.t 3],(.seq (.Ze [p 1 (.Za (.k (.str []))),p 2 (.Za (.k (.int .i64 0))),p 3 (.Za (.k (.int .i64 0)))]) (.seq (.Ze [n 4 (.alloc 84
 false [.J8,.Zc])]) (.seq (.Ze [r 9 (.load none 0),p 5 (.Za 9)]) (.seq (.seq (.Ze [p 10 (.Za 5),p 11 (.bin .lss 10 (.k (.int .i64 0)))]) (.cond 11 (.seq (.Ze [w 12
 (.call (.k (.fn 91 [] [])) [4,(.k (.int .u8 45))])]) (.Ze [p 13 (.Za 5),p 14 (.un .neg 13),p 5 (.Za 14)])) .skip)) (.seq (.seq (.Ze [p 15 (.Za 5),p 16 (.bin .quo 15 (.k (.int
 .i64 65536))),w 17 (.call (.k (.fn 138 [] [])) [16])]) (.block 0 (.rangeFunc 17 [18] (.Ze [p 6 (.Za 18)]) Df))) (.seq (.Zd [4,5]) (.seq (.Ze [w 21 (.call (.k (.fn
 91 [] [])) [4,(.k (.int .u8 46))])]) (.seq (.seq (.Ze [p 22 (.Za 5),p 23 (.bin .rem 22 (.k (.int .i64 65536))),p 7 (.Za 23),p 8 (.Za (.k (.bool true)))]) (.block 2 (.loop We)))
 (.seq (.Zd [4]) (.seq (.Ze [w 38 (.call (.k (.fn 92 [] [])) [4]),p 1 (.Za 38),p 2 (.Za (.k (.int .i64 0))),p 3 (.Za (.k (.int .i64 0)))]) .ret))))))))))⟩
def Lv:Zv:=(.seq (.Zd [0,4,10,11,12]) (.seq (.Ze [p 13 (.bin .lss 12 11)]) (.seq (.cond 13 .skip (.exit 0)) (.seq (.block 1 (.seq (.Ze [p 14 (.Zu
 1 10 12),r 15 (.load none 14),p 7 (.Za 15)]) (.seq (.Ze [p 16 (.Za 7),w 17 (.call (.k (.fn 110 [] [])) [16]),p 18 (.un .not 17)]) (.cond 18 (.seq (.Ze [p 19 (.Za 4),p 4 (.Za
 19),p 5 (.Za (.k (.int .i64 2)))]) .ret) .skip)))) (.seq (.Zd [0,4,10,11,12]) (.Ze [p 20 (.bin .add 12 (.k (.int .i64 1))),p 12 (.Za 20)]))))))
def Jw:Qa:=⟨2,[.t 4,.t 5],(.seq (.Ze [p 4 (.Za (.k (.str []))),p 5 (.Za (.k (.int .i64 0)))]) (.seq (.seq (.Ze [p 10 (.Za 1),p 11 (.lenOf false 10),
 p 12 (.Za (.k (.int .i64 0)))]) (.block 0 (.loop Lv))) (.seq (.Zd [0,4]) (.seq (.Ze [p 22 (.Za 0),w 23 (.call 22 []),p 21 (.Za 23),p 24 (.Zq 0 21),p
 25 (.Zq 1 21),p 26 (.Zq 2 21),p 8 (.Za 24),p 9 (.Za 25),p 5 (.Za 26)]) (.seq (.Zd [4,5,8,9]) (.seq (.seq (.Ze [p 27 (.Za 5),p 28 (.bin .eql 27 (.k (.int .i64 0))),
 p 29 (.Za 28),pg 30 29 true (.Za 9),wg 31 29 true (.call (.k (.fn 110 [] [])) [30]),pg 32 29 true (.un .not 31),p 33 (.pick 29 32 (.k (.bool false)))]) (.cond 33 (.Ze [p 5 (.Za
 (.k (.int .i64 25)))]) .skip)) (.seq (.Zd [4,5,8]) (.seq (.seq (.Ze [p 34 (.Za 5),p 35 (.bin .neq 34 (.k (.int .i64 0)))]) (.cond 35 (.seq (.Ze [p 36 (.Za 4),p 37 (.Za 5),
 p 4 (.Za 36),p 5 (.Za 37)]) .ret) .skip)) (.seq (.Ze [p 38 (.Za 8),p 4 (.Za 38),p 5 (.Za (.k (.int .i64 0)))]) .ret)))))))))⟩
def Rr:Qa:=⟨1,[.t 2],(.seq (.Ze [n 1 (.box 3 false 0),p 2 (.Za (.k .Jx))]) (.seq (.Ze [p 3 (.Pz 139 [] [1]),p 2 (.Za 3)]) .ret))⟩
def Re:Zv:=(.seq (.Zd [0,1,3]) (.seq (.seq (.Ze [r 4 (.load none 1),p 5 (.Za 3),p 6 (.bin .quo 4 5),p 7 (.bin .geq 6 (.k (.int .i64 10)))]) (.cond 7 .skip
 (.exit 0))) (.block 1 (.Ze [p 8 (.Za 3),p 9 (.bin .mul 8 (.k (.int .i64 10))),p 3 (.Za 9)]))))
def Wg:Zv:=(.seq (.Zd [0,1,3]) (.seq (.seq (.Ze [p 10 (.Za 3),p 11 (.bin .gtr 10 (.k (.int .i64 0)))]) (.cond 11 .skip (.exit 2))) (.seq (.block 3 (.seq (.Ze
 [p 14 (.Za 0),r 15 (.load none 1),p 16 (.Za 3),p 17 (.bin .quo 15 16),p 18 (.bin .rem 17 (.k (.int .i64 10))),p 19 (.conv .u8 18),p 20 (.bin .add (.k (.int .u8 48)) 19),w 21
 (.call 14 [20]),p 22 (.un .not 21)]) (.cond 22 .ret .skip))) (.seq (.Zd [0,1,3]) (.Ze [p 12 (.Za 3),p 13 (.bin .quo 12 (.k (.int .i64 10))),p 3 (.Za 13)])))))
def Nd:Qa:=⟨2,[],(.seq (.Ze [p 3 (.Za (.k (.int .i64 1)))]) (.seq (.block 0 (.loop Re)) (.seq (.Zd [0,1,3]) (.block 2 (.loop Wg)))))⟩
structure C3 (T:Tab):Prop where
 en:T.en 132=some Uo
structure C2 (T:Tab):Prop where
 e:T.en 139=none
 f:T.fn 139=some Nd
structure Ee (T:Tab):Prop where
 e:T.en 137=none
 f:T.fn 137=some Jw
 Rc:Ii T
structure O1 (T:Tab):Prop where
 e:T.en 138=none
 f:T.fn 138=some Rr
 Nd:C2 T
structure Mk (T:Tab):Prop where
 e:T.en 136=none
 f:T.fn 136=some Jq
 Ql:J5 T
 Rr:O1 T
 Km:Wv T
structure Oz (T:Tab):Prop where
 e:T.en 133=none
 f:T.fn 133=some Hw
 Jq:Mk T
 Jw:Ee T
end Go.Ev.B

/- The reference's valid tokens. -/
namespace Go.Ev
open Go
variable {T : Tab} {st : St}
end Go.Ev

/- The reference's decimal text of an int. -/
namespace Go.Ev
open Go
variable {T : Tab} {st : St}
theorem X2 {u:Nat} (h:u<10):Lib.decDigits u=[UInt8.ofNat (48+u)]:=by rw[Lib.decDigits,dif_pos h]
theorem Fx {u:Nat} (h:¬u<10):Lib.decDigits u=Lib.decDigits (u / 10)++[UInt8.ofNat (48+u % 10)]:=by rw[Lib.decDigits,dif_neg h]
theorem Zbv:∀(k u:Nat),u<10 ^ (k+1)→1≤(Lib.decDigits u).length∧(Lib.decDigits u).length≤k+1
 | 0,u,h=>by rw[X2 (by simpa using h)];simp
 | k+1,u,h=>by
   by_cases h10:u<10
   ·rw[X2 h10];simp
   ·have:=Zbv k (u / 10) (by rw[Nat.pow_succ]at h;omega)
    rw[Fx h10,List.length_append,List.length_singleton]
    omega
theorem Zhl {u:Nat} (h:u≤4294967296):1≤(Lib.decDigits u).length∧(Lib.decDigits u).length≤10:=Zbv 9 u (by omega)
theorem digW {d:Nat} (h:d<10):IntKind.u8.wrap (48+(d:Int))=((UInt8.ofNat (48+d)).toNat:Int)∧IntKind.i64.wrap (48+(d:Int))=48+d:=by
 constructor
 ·have:d=0∨d=1∨d=2∨d=3∨d=4∨d=5∨d=6∨d=7∨d=8∨d=9:=by omega
  rcases this with rfl | rfl | rfl | rfl | rfl | rfl | rfl | rfl | rfl | rfl <;> rfl
 ·exact Zo (by omega) (by omega)
end Go.Ev

/- Reals as decimals: what both Prints answer; the reference's Print. -/
namespace Go.Ev
open Go
variable {T : Tab} {st : St}
def Fi:Nat→Nat→List UInt8
 | 0,_=>[]
 | k+1,f=>UInt8.ofNat (48+f*10 / 65536)::(if f*10 % 65536=0 then []else Fi k (f*10 % 65536))
def Hv (n:Int):List UInt8:=(if n<0 then [45]else [])++(Lib.decDigits (n.natAbs / 65536)++(46::Fi 17 (n.natAbs % 65536)))
theorem Zfl:∀k f,(Fi k f).length≤k
 | 0,_=>by simp[Fi]
 | k+1,f=>by
   have:=Zfl k (f*10 % 65536)
   simp only[Fi,List.length_cons]
   split <;> simp <;> omega
theorem Zx5 {k f:Nat} (hk:1≤k) (hk2:k≤16) (hd:2 ^ (17 - (k+1)) ∣ f):2 ^ (17 - k) ∣ f*10 % 65536:=by
 obtain⟨m,hm⟩:=hd
 have e1:(2:Nat) ^ (17 - k)=2 ^ (17 - (k+1))*2:=by rw[←Nat.pow_succ];congr 1;omega
 have h1:2 ^ (17 - k) ∣ f*10:=⟨m*5,by rw[e1,hm];rw[Nat.mul_assoc,Nat.mul_assoc,←Nat.mul_assoc 2 m 5,Nat.mul_comm 2 m,Nat.mul_assoc m 2 5]⟩
 have h2:2 ^ (17 - k) ∣ 65536:=⟨2 ^ (k - 1),by rw[←Nat.pow_add,show 17 - k+(k - 1)=16 by omega]⟩
 exact(Nat.dvd_mod_iff h2).2 h1
theorem Zvy {f:Nat} (hf:f<65536):IntKind.i64.wrap ((f:Int)*10)=((f*10:Nat):Int)∧((f*10:Nat):Int).tdiv 65536=((f*10 / 65536:Nat):Int)∧((f*10:Nat):Int).tmod 65536=((f*10 % 65536:Nat):Int)∧
  IntKind.i64.wrap ((f*10 / 65536:Nat):Int)=((f*10 / 65536:Nat):Int)∧f*10 / 65536<10∧f*10 % 65536<65536:=by
 refine⟨by rw[Zo (by omega) (by omega)];omega,?_,?_,Zo (by omega) (by omega),by omega,by omega⟩
 ·rw[Int.tdiv_eq_ediv_of_nonneg (by omega)];omega
 ·rw[Int.tmod_eq_emod_of_nonneg (by omega)];omega
theorem Zt1 {u:Nat}:Hv (u:Int)=Lib.decDigits (u / 65536)++(46::Fi 17 (u % 65536)):=by
 unfold Hv;rw[if_neg (by omega)];simp
theorem Zt0 {u:Nat} (h:0<u):Hv (-(u:Int))=45::(Lib.decDigits (u / 65536)++(46::Fi 17 (u % 65536))):=by
 unfold Hv;rw[if_pos (by omega)];simp
theorem Zxu (u:Nat):(u:Int).tdiv 65536=((u / 65536:Nat):Int)∧(u:Int).tmod 65536=((u % 65536:Nat):Int):=by
 refine⟨?_,?_⟩
 ·rw[Int.tdiv_eq_ediv_of_nonneg (by omega)];omega
 ·rw[Int.tmod_eq_emod_of_nonneg (by omega)];omega
end Go.Ev

/- The canonical texts: the reference's Text. -/
namespace Go.Ev
open Go
variable {T : Tab} {st : St}
end Go.Ev

/- real.Print: the digits ahead of the point are yielded one by one. -/
namespace Go.Ev
open Go
variable {T : Tab} {st : St}
theorem Zmj (H:B.J5 T) {st0:St} (hx:Ext st0 st) {q:Nat} {l:List UInt8} (c:UInt8) {n:Int} (hn:n=(c.toNat:Int)) (b:Bd st0 st q l) (hl:l.length<35184372088831):
  Qt (call T (.fn 91 [] []) [.ptr q 0,.int .u8 n] st) fun _ s'=>(Ext st0 s'∧Bd st0 s' q (l++[c]))∧∀m o,m≠q→Zh st.h m=some o→(∀ty,o≠.cells ty false (u8s l))→o≠.buf 5 1 (u8s l)→Zh s'.h m=some o:=by
 subst hn
 obtain⟨h1,a,v,h2,h3,h4,h5⟩:=b
 refine Zw H.e H.f rfl ?_
 simp[B.Ql,go_sem]
 refine(Zbu H.Q4 hx.wf h2 h3).mono ?_
 rintro _ s1 ⟨f1,g1⟩
 have x1:Ext st0 s1:=hx.Ma f1 (by simpa using h1)
 have g4:=h4.Ma f1 hx.wf (by intro n hn h;simp at h;subst h;exact h5 hn)
 have hr:Q5 s1.h q 1=some v:=by simp[Q5,g1]
 simp[go_sem,RO.run,NO.run,hr,Bn]
 refine(g4.push x1.nx x1.wf (k:=1) (by omega) (c:=c) hl).mono ?_
 rintro v2 s2 ⟨o2,f2⟩
 have x2:=x1.Ma f2 h4.ge
 have g2:Zh s2.h q=some (.cells 84 false [.ptr q 0,v]):=f2.get x1.wf g1 h5
 have hw2:Jy s2.h q 1 [v2]=some (Z7 s2.h q (.cells 84 false [.ptr q 0,v2])):=Og g2 o2.sc (by simp)
 have f3:=Frm.set x2.wf g2 (o:= .cells 84 false [.ptr q 0,v2])
 have hap:=o2.apart g2 (x:= .ptr q 0) (by simp) (by simp)
 have g3:=Zn (o:= .cells 84 false [.ptr q 0,v2]) g2
 simp[go_sem,WO.run,o2.Yg,hw2]
 have x3:Ext st0 ⟨Z7 s2.h q (.cells 84 false [.ptr q 0,v2]),s2.nx⟩:=x2.Ma f3 (by simpa using h1)
 have o3:Grow st0 ⟨Z7 s2.h q (.cells 84 false [.ptr q 0,v2]),s2.nx⟩ v2 (l++[c]):=o2.Ma f3 x2.wf (by intro n hn h;simp at h;subst h;exact hap hn)
 have x4:Ext st0 ⟨Go.Ev.Zb st.nx (Z7 s2.h q (.cells 84 false [.ptr q 0,v2])),s2.nx⟩:=x3.Zi9 hx.nx
 refine⟨⟨x4,h1,_,v2,Qh x3.wf g3 rfl,.inr rfl,o3.Zb x3.wf,hap⟩,?_⟩
 intro m o hmq ho hc hb
 have hm:m∉v.nms:=by
  intro hm
  rcases h4.nms hm with ⟨ty,k⟩ | k
  ·rw[ho]at k;cases k;exact hc ty rfl
  ·rw[ho]at k;cases k;exact hb rfl
 have k1:=f1.get hx.wf ho (by simpa using hmq)
 have k2:=f2.get x1.wf k1 hm
 have k3:=f3.get (st:=⟨_,_⟩) x2.wf k2 (by simpa using hmq)
 show Zh (Go.Ev.Zb st.nx _) m=_
 rw[Ki (hx.wf.lt m o ho)]
 exact k3
theorem Zui (H:B.O1 T) (hwf:st.Wf) {n:Int} {Q:AV→St→Prop}
  (h:Q (.fn 139 [] [.ptr st.nx 0]) ⟨(st.nx,.cells 3 false [.int .i64 n])::st.h,st.nx+1⟩):
  Qt (call T (.fn 138 [] []) [.int .i64 n] st) Q:=by
 refine Zw H.e H.f rfl ?_
 have hd:Zb st.nx ((st.nx,Qb.cells 3 false [.int .i64 n])::st.h)=(st.nx,Qb.cells 3 false [.int .i64 n])::st.h:=by
  have:K3 st.nx ((st.nx,Qb.cells 3 false [.int .i64 n])::st.h)=[]:=by
   simp only[K3]
   exact Gw fun n o ho=>hwf.lt n o ho
  rw[Us,this,Zaj]
 simp[B.Rr,go_sem,NO.run,AV.nb,hd]
 exact h
def Zdt (n:Nat):Nat→List UInt8
 | 0=>[UInt8.ofNat (48+n % 10)]
 | k+1=>UInt8.ofNat (48+n / 10 ^ (k+1) % 10)::Zdt n k
theorem Zi7 (n:Nat):∀k,Zdt n (k+1)=Zdt (n / 10) k++[UInt8.ofNat (48+n % 10)]
 | 0=>by simp[Zdt]
 | k+1=>by
   have:=Zi7 n k
   rw[Zdt,this,Zdt,Nat.div_div_eq_div_mul,←Nat.pow_succ']
   rfl
theorem Zmo:∀(k n:Nat),n<10 ^ (k+1)→(k=0∨10 ^ k≤n)→Zdt n k=Lib.decDigits n
 | 0,n,h,_=>by rw[X2 (by simpa using h),Zdt,Nat.mod_eq_of_lt (by simpa using h)]
 | k+1,n,h,hk=>by
   have h1:10 ^ (k+1)≤n:=by rcases hk with hk | hk;cases hk;exact hk
   have h2:1≤10 ^ k:=Nat.pow_pos (by omega)
   rw[Nat.pow_succ]at h h1
   rw[Zi7,Fx (by omega),Zmo k (n / 10) (by rw[Nat.pow_succ]at h⊢;omega) (.inr (by omega))]
theorem Zzk {n m:Nat} (hn:n≤65536) (hg:Zh st.h m=some (.cells 3 false [.int .i64 (n:Int)])) {y:AV}:∀(f j:Nat) (e:Env),j+f=5→(j=0∨10 ^ j≤n)→Zl e 0=y→Zl e 1= .ptr m 0→Zl e 3= .int .i64 ((10 ^ j:Nat):Int)→
  Res (run T (.loop B.Re) e st) fun x e' s'=>x= .exit 0∧s'=st∧Zl e' 0=y∧Zl e' 1= .ptr m 0∧∃k,k≤5∧Zl e' 3= .int .i64 ((10 ^ k:Nat):Int)∧n<10 ^ (k+1)∧(k=0∨10 ^ k≤n):=by
 intro f
 induction f with
 | zero=>
   intro j e hj hjn g0 g1 g3
   have hj5:j=5:=by omega
   subst hj5
   exfalso
   omega
 | succ f ih=>
   intro j e hj hjn g0 g1 g3
   rw[Zs]
   have hp:10 ^ (j+1)=10 ^ j*10:=Nat.pow_succ ..
   have hp1:1≤10 ^ j:=Nat.pow_pos (by omega)
   have hp2:10 ^ j≤10 ^ 4:=Nat.pow_le_pow_right (by omega) (by omega)
   have hnext:=ih (j+1)
   have hthis:∀k,k=j→(k=0∨10 ^ k≤n):=fun k h=>h▸hjn
   rw[hp]at hnext
   have hend:n<10 ^ j*10→∃k,k≤5∧10 ^ k=10 ^ j∧n<10 ^ (k+1)∧(k=0∨10 ^ k≤n):=fun h=>⟨j,by omega,rfl,by rw[hp];exact h,hjn⟩
   generalize 10 ^ j=p at*
   have hq:(n:Int).tdiv (p:Int)=((n / p:Nat):Int):=(Int.ofNat_tdiv n p).symm
   have hle:n / p≤n:=Nat.div_le_self n p
   have hd:10≤n / p↔p*10≤n:=by rw[Nat.le_div_iff_mul_le hp1,Nat.mul_comm]
   have hp0:¬(p:Int)=0:=by omega
   have hp0':¬p=0:=by omega
   have wp:IntKind.i64.wrap ((p:Int)*10)=((p*10:Nat):Int):=by rw[Zo (by omega) (by omega)];omega
   generalize n / p=q at*
   have wq:IntKind.i64.wrap (q:Int)=(q:Int):=Zo (by omega) (by omega)
   by_cases hc:10≤q
   ·have hc':(10:Int)≤q:=by omega
    simp[B.Re,go_sem,g0,g1,g3,RO.run,G1 hg,hq,wq,hp0,hp0',hc,hc',wp]
    exact hnext _ (by omega) (.inr (hd.1 hc)) (by simp[go_sem]) (by simp[go_sem]) (by simp[go_sem,wp])
   ·have hc':¬(10:Int)≤q:=by omega
    simp[B.Re,go_sem,g0,g1,g3,RO.run,G1 hg,hq,wq,hp0,hp0',hc,hc']
    obtain⟨k,k1,k2,k3,k4⟩:=hend (by omega)
    exact⟨k,k1,by rw[←k2];rfl,k3,k4⟩
theorem Zzl {n m:Nat} (hn:n≤65536) {Y:AV} (P:List UInt8→St→Prop) (hg:∀l s,P l s→Zh s.h m=some (.cells 3 false [.int .i64 (n:Int)]))
  (hY:∀l s (c:UInt8),P l s→l.length≤10→Qt (call T Y [.int .u8 (c.toNat:Int)] s) fun v s2=>v= .bool true∧P (l++[c]) s2):∀(k:Nat) (l:List UInt8) (e:Env) (st1:St),k≤5→l.length+k≤10→P l st1→Zl e 0=Y→Zl e 1= .ptr m 0→Zl e 3= .int .i64 ((10 ^ k:Nat):Int)→
  Res (run T (.loop B.Wg) e st1) fun x e' s'=>x= .exit 2∧P (l++Zdt n k) s':=by
 have step:∀(p:Nat) (l:List UInt8) (e:Env) (st1:St) (Q:Ex→Env→St→Prop),1≤p→p≤100000→l.length≤10→P l st1→Zl e 0=Y→Zl e 1= .ptr m 0→Zl e 3= .int .i64 (p:Int)→
   (∀e' s',P (l++[UInt8.ofNat (48+n / p % 10)]) s'→Zl e' 0=Y→Zl e' 1= .ptr m 0→Zl e' 3= .int .i64 ((p / 10:Nat):Int)→Res (run T (.loop B.Wg) e' s') Q)→
   Res (run T (.loop B.Wg) e st1) Q:=by
  intro p l e st1 Q hp1 hp2 hl hP g0 g1 g3 hfin
  rw[Zs]
  have hq:(n:Int).tdiv (p:Int)=((n / p:Nat):Int):=(Int.ofNat_tdiv n p).symm
  have hle:n / p≤n:=Nat.div_le_self n p
  have hp0:¬(p:Int)=0:=by omega
  have hp0':¬p=0:=by omega
  have hpp:(0:Int)<p:=by omega
  have hpp':0<p:=by omega
  generalize n / p=q at*
  have wq:IntKind.i64.wrap (q:Int)=(q:Int):=Zo (by omega) (by omega)
  obtain⟨hr,_⟩:=Zacg q
  obtain⟨_,hs⟩:=Zacg p
  have wr:IntKind.u8.wrap ((q % 10:Nat):Int)=((q % 10:Nat):Int):=by
   have:q % 10<10:=Nat.mod_lt _ (by omega)
   generalize q % 10=r at*
   have:r=0∨r=1∨r=2∨r=3∨r=4∨r=5∨r=6∨r=7∨r=8∨r=9:=by omega
   rcases this with rfl | rfl | rfl | rfl | rfl | rfl | rfl | rfl | rfl | rfl <;> rfl
  have ws:IntKind.i64.wrap ((p / 10:Nat):Int)=((p / 10:Nat):Int):=Zo (by omega) (by omega)
  obtain⟨w1,_⟩:=digW (Nat.mod_lt q (show 0<10 by omega))
  generalize q % 10=r at*
  generalize p / 10=p2 at*
  generalize UInt8.ofNat (48+r)=c at*
  simp[B.Wg,go_sem,g0,g1,g3,RO.run,G1 (hg _ _ hP),hq,wq,hp0,hp0',hpp,hpp',hr,wr,w1]
  refine(hY l st1 c hP hl).mono ?_
  rintro v s2 ⟨rfl,hP2⟩
  simp[go_sem,g0,g1,g3,hs,ws]
  exact hfin _ _ hP2 (by simp[go_sem]) (by simp[go_sem]) (by simp[go_sem,hs,ws])
 intro k
 induction k with
 | zero=>
   intro l e st1 _ hl hP g0 g1 g3
   refine step 1 l e st1 _ (by omega) (by omega) (by omega) hP g0 g1 (by simpa using g3) ?_
   intro e' s' hP' k0 k1 k3
   rw[Zs]
   simp[B.Wg,go_sem,k0,k1,k3]
   rw[Nat.div_one]at hP'
   exact hP'
 | succ k ih=>
   intro l e st1 hk hl hP g0 g1 g3
   have hp1:1≤10 ^ (k+1):=Nat.pow_pos (by omega)
   have hp2:10 ^ (k+1)≤10 ^ 5:=Nat.pow_le_pow_right (by omega) (by omega)
   refine step (10 ^ (k+1)) l e st1 _ hp1 (by omega) (by omega) hP g0 g1 g3 ?_
   intro e' s' hP' k0 k1 k3
   have hp3:10 ^ (k+1) / 10=10 ^ k:=by rw[Nat.pow_succ];omega
   rw[hp3]at k3
   have:=ih (l++[UInt8.ofNat (48+n / 10 ^ (k+1) % 10)]) e' s' (by omega) (by simp;omega) hP' k0 k1 k3
   rw[List.append_assoc]at this
   exact this
theorem Zpu (H:B.C2 T) {n m:Nat} (hn:n≤65536) {Y:AV} (P:List UInt8→St→Prop) (hg:∀l s,P l s→Zh s.h m=some (.cells 3 false [.int .i64 (n:Int)]))
  (hY:∀l s (c:UInt8),P l s→l.length≤10→Qt (call T Y [.int .u8 (c.toNat:Int)] s) fun v s2=>v= .bool true∧P (l++[c]) s2) (hP:P [] st) {Q:St→Prop} (hQ:∀s,P (Lib.decDigits n) s→Q ⟨Zb st.nx s.h,s.nx⟩):
  Qt (call T (.fn 139 [] [.ptr m 0]) [Y] st) fun _ s=>Q s:=by
 refine Zqa H.e H.f rfl rfl ?_
 simp[B.Nd,go_sem]
 refine(Zzk hn (hg _ _ hP) (y:=Y) 5 0 _ rfl (.inl rfl) (by simp[go_sem]) (by simp[go_sem]) (by simp[go_sem])).mono ?_
 rintro x e s ⟨rfl,rfl,k0,k1,k,hk,k3,k4,k5⟩
 simp[go_sem,k0,k1,k3]
 refine(Zzl hn P hg hY k [] _ _ hk (by simp;omega) hP (by simp[go_sem]) (by simp[go_sem]) (by simp[go_sem])).mono ?_
 rintro x e s ⟨rfl,hP2⟩
 rw[Zmo k n k4 k5]at hP2
 simp[go_sem]
 exact hQ s (by simpa using hP2)
end Go.Ev

/- real.Print told. -/
namespace Go.Ev
open Go
variable {T : Tab} {st : St}
def pb:Nat→Zv
 | 0=>B.Jq.body
 | k+1=>(pb k).b
theorem Bd.frm1 {st0 s s':St} {q m:Nat} {l:List UInt8} {o:Qb} (b:Bd st0 s q l) (f:Frm [m] s s') (hw:s.Wf) (hm:Zh s.h m=some o) (h1:∀ty l cs,o≠.cells ty l cs) (h2:∀ty es cs,o≠.buf ty es cs):Bd st0 s' q l:=by
 obtain⟨k1,a,v,k2,k3,k4,k5⟩:=b
 have hq:q≠m:=by rintro rfl;rw[hm]at k2;cases k2;exact h1 _ _ _ rfl
 have hv:∀n∈v.nms,n∉[m]:=by
  intro n hn hnm
  simp at hnm
  subst hnm
  rcases k4.nms hn with ⟨ty,h⟩ | h
  ·rw[hm]at h;cases h;exact h1 _ _ _ rfl
  ·rw[hm]at h;cases h;exact h2 _ _ _ rfl
 exact⟨k1,a,v,f.get hw k2 (by simpa using hq),k3,k4.Ma f hw hv,k5⟩
theorem Zrq (H:B.Mk T) (st0:St):∀(k f:Nat) (first:Bool) (l:List UInt8) (q:Nat) (e:Env) (st1:St),k+1≤17→f<65536→2 ^ (17 - (k+1)) ∣ f→(first=true∨0<f)→(first=true→k=16)→l.length+k≤1000→Ext st0 st1→Bd st0 st1 q l→Zl e 4= .ptr q 0→Zl e 7= .int .i64 (f:Int)→Zl e 8= .bool first→
  Res (run T (.loop B.We) e st1) fun x e' s'=>x= .exit 2∧Ext st0 s'∧Bd st0 s' q (l++Fi (k+1) f)∧Zl e' 4= .ptr q 0:=by
 intro k
 induction k with
 | zero=>
   intro f first l q e st1 hi hf hd hgo hk hl hx b g4 g7 g8
   obtain⟨m,hm⟩:=hd
   have hf0:f=0:=by
    rw[show (2:Nat) ^ (17 - (0+1))=65536 from rfl]at hm;omega
   exfalso
   rcases hgo with h | h
   ·have:=hk h;omega
   ·omega
 | succ k ih=>
   intro f first l q e st1 hi hf hd hgo hk hl hx b g4 g7 g8
   obtain⟨a1,a2,a3,a4,a5,a6⟩:=Zvy hf
   obtain⟨w1,w2⟩:=digW a5
   have hdv:=Zx5 (k:=k+1) (by omega) (by omega) hd
   have hfr:Fi (k+1+1) f=UInt8.ofNat (48+f*10 / 65536)::(if f*10 % 65536=0 then []else Fi (k+1) (f*10 % 65536)):=rfl
   rw[hfr]
   generalize f*10 / 65536=d at*
   generalize f*10 % 65536=r at*
   generalize f*10=t at*
   have wd:IntKind.u8.wrap (d:Int)=(d:Int):=by
    have:d=0∨d=1∨d=2∨d=3∨d=4∨d=5∨d=6∨d=7∨d=8∨d=9:=by omega
    rcases this with rfl | rfl | rfl | rfl | rfl | rfl | rfl | rfl | rfl | rfl <;> rfl
   generalize UInt8.ofNat (48+d)=c at*
   obtain⟨OUT,hO⟩:∃OUT,OUT=l++c::(if r=0 then []else Fi (k+1) r):=⟨_,rfl⟩
   rw[←hO]
   have fin:∀e' s',Ext st0 s'→Bd st0 s' q (l++[c])→Zl e' 4= .ptr q 0→Zl e' 7= .int .i64 (r:Int)→Zl e' 8= .bool false→
     Res (run T (.loop B.We) e' s') fun x e' s'=>x= .exit 2∧Ext st0 s'∧Bd st0 s' q OUT∧Zl e' 4= .ptr q 0:=by
    intro e' s' hx' b' k4 k7 k8
    by_cases hr:r=0
    ·subst hr
     have hO':OUT=l++[c]:=by rw[hO];simp
     rw[Zs]
     simp[B.We,go_sem,k4,k7,k8,hx',hO',b']
    ·have hO':OUT=(l++[c])++Fi (k+1) r:=by rw[hO,if_neg hr];simp
     rw[hO']
     exact ih r false (l++[c]) q e' s' (by omega) a6 hdv (.inr (by omega)) (by simp) (by simp;omega) hx' b' k4 k7 k8
   rw[Zs]
   by_cases hf0:0<f
   ·have hf0':(0:Int)<f:=by omega
    simp[B.We,go_sem,g4,g7,g8,a1,a2,a3,a4,hf0,hf0',wd,w1]
    refine(Ci H.Ql hx c rfl b (by omega)).mono ?_
    rintro _ s1 ⟨x1,b1⟩
    simp[go_sem,a3]
    exact fin _ _ x1 b1 (by simp[go_sem]) (by simp[go_sem,a3]) (by simp[go_sem])
   ·have hf1:first=true:=by rcases hgo with h | h;exact h;exact absurd h hf0
    subst hf1
    have hf0':¬(0:Int)<f:=by omega
    simp[B.We,go_sem,g4,g7,g8,a1,a2,a3,a4,hf0,hf0',wd,w1]
    refine(Ci H.Ql hx c rfl b (by omega)).mono ?_
    rintro _ s1 ⟨x1,b1⟩
    simp[go_sem,a3]
    exact fin _ _ x1 b1 (by simp[go_sem]) (by simp[go_sem,a3]) (by simp[go_sem])
theorem Bd.Zb {st0 s:St} {q c:Nat} {l:List UInt8} (b:Bd st0 s q l) (hw:s.Wf):Bd st0 ⟨Go.Ev.Zb c s.h,s.nx⟩ q l:=by
 obtain⟨k1,a,v,k2,k3,k4,k5⟩:=b
 exact⟨k1,a,v,Qh hw k2 rfl,k3,k4.Zb hw,k5⟩
theorem Zz2 (n:Int) (l:List UInt8):[AV.int .i64 n]≠u8s l:=by
 cases l with
 | nil=>simp[u8s]
 | cons c l=>simp[u8s]
theorem Zrr (H:B.Mk T) (st0:St) {q u:Nat} {pre:List UInt8} {e:Env} {s1:St} (hu:u≤4294967296) (hpre:pre.length≤1) (hx:Ext st0 s1) (b:Bd st0 s1 q pre) (g4:Zl e 4= .ptr q 0) (g5:Zl e 5= .int .i64 (u:Int)):
  Res (run T (pb 4) e s1) fun x e' s'=>x= .ret∧Ext st0 s'∧Zl e' 1= .str (pre++(Lib.decDigits (u / 65536)++(46::Fi 17 (u % 65536))))∧Zl e' 2= .int .i64 0∧Zl e' 3= .int .i64 0:=by
 obtain⟨a1,a2⟩:=Zxu u
 have hq:u / 65536≤65536:=by omega
 have hr:u % 65536<65536:=by omega
 have wq:IntKind.i64.wrap ((u / 65536:Nat):Int)=((u / 65536:Nat):Int):=Zo (by omega) (by omega)
 generalize u / 65536=n at*
 generalize u % 65536=r at*
 simp only[pb,B.Jq,O3]
 simp[go_sem,g5,a1,wq]
 refine Zui H.Rr hx.wf ?_
 simp[go_sem]
 refine Zb9 ?_
 simp[go_sem]
 have hqlt:q<s1.nx:=by
  obtain⟨_,_,_,k2,_⟩:=b
  exact hx.wf.lt _ _ k2
 have hd:=Zhl (u:=n) (by omega)
 have xa:=Ext.new hx.wf (.cells 3 false [.int .i64 (n:Int)])
 generalize hE:((17,AV.fn 139 [] [.ptr s1.nx 0])::(16,AV.int .i64 (n:Int))::(15,AV.int .i64 (u:Int))::e:Env)=E
 have q4:Zl E 4= .ptr q 0:=by rw[←hE];simp[go_sem,g4]
 clear hE
 obtain⟨W,hW⟩:∃W,W=B.Df:=⟨_,rfl⟩
 rw[←hW]
 generalize hO:(fun st=>Qb.loop st E [18] (Zv.Ze [{dst:=some 6,guard:=none,op:=MO.p (PO.Za (AO.t 18))}]) W)=O
 have hOr:Qb.loop .ready E [18] (Zv.Ze [{dst:=some 6,guard:=none,op:=MO.p (PO.Za (AO.t 18))}]) W=O .ready:=by rw[←hO]
 have hOb:Qb.loop .busy E [18] (Zv.Ze [{dst:=some 6,guard:=none,op:=MO.p (PO.Za (AO.t 18))}]) W=O .busy:=by rw[←hO]
 have on1:∀z ty l cs,O z≠.cells ty l cs:=fun z ty l cs=>by rw[←hO];simp
 have on2:∀z ty es cs,O z≠.buf ty es cs:=fun z ty es cs=>by rw[←hO];simp
 have hOe:∀z,O z=Qb.loop z E [18] (Zv.Ze [{dst:=some 6,guard:=none,op:=MO.p (PO.Za (AO.t 18))}]) W:=fun z=>by rw[←hO]
 rw[hOr]
 have xb:=xa.trans (Ext.new xa.wf (O .ready))
 simp only[Nat.add_assoc,Nat.reduceAdd]at xb⊢
 clear hO
 refine(Zpu H.Rr.Nd (n:=n) (m:=s1.nx) hq
  (fun l s=>Ext st0 s∧Bd st0 s q (pre++l)∧Zh s.h (s1.nx+1)=some (O .ready)∧Zh s.h s1.nx=some (.cells 3 false [.int .i64 (n:Int)])) (fun l s h=>h.2.2.2) ?_
  ⟨hx.trans xb,by simpa using b.ext xb hx.wf,by simp[Zg],by simp[Zg]⟩ (Q:=fun s=>Ext st0 s∧Bd st0 s q (pre++Lib.decDigits n)∧Zh s.h (s1.nx+1)=some (O .ready)) ?_).mono ?_
 ·rintro l s c ⟨k1,k2,k3,k4⟩ hl
  rw[hOe]at k3
  refine Zi3 k3 rfl ?_
  simp[go_sem,k3]
  rw[hOr]at k3
  rw[hOb]
  have y1:Ext st0 ⟨Z7 s.h (s1.nx+1) (O .busy),s.nx⟩:=k1.Vk k3 (by have:=hx.nx;omega)
  have y2:=k2.frm1 (Frm.set k1.wf k3 (o:=O .busy)) k1.wf k3 (on1 _) (on2 _)
  have y3:=Zn (o:=O .busy) k3
  have y4:=(Kk (m:=s1.nx) (o:=O .busy) k3 (by omega)).trans k4
  refine Res.mono (Q:=fun x _ s2=>x= .norm∧Ext st0 s2∧Bd st0 s2 q (pre++l++[c])∧Zh s2.h (s1.nx+1)=some (O .busy)∧Zh s2.h s1.nx=some (.cells 3 false [.int .i64 (n:Int)])) ?_ ?_
  ·rw[hW]
   simp[B.Df,go_sem,q4]
   refine(Zmj H.Ql y1 c rfl y2 (by simp;omega)).mono ?_
   rintro _ s2 ⟨⟨z1,z2⟩,z3⟩
   have w1:=z3 (s1.nx+1) (O .busy) (by omega) y3 (fun ty=>on1 _ _ _ _) (on2 _ _ _ _)
   have w2:=z3 s1.nx _ (by omega) y4 (fun ty h=>by injection h with _ _ h;exact Zz2 _ _ h) (by simp)
   simp[go_sem,z1,w1,w2]
   simpa using z2
  ·rintro _ _ s2 ⟨rfl,z1,z2,w1,w2⟩
   refine⟨by rw[hOb];exact w1,?_⟩
   show AV.bool true= .bool true∧_
   rw[hOr]
   refine⟨rfl,z1.Vk w1 (by have:=hx.nx;omega),?_,Zn w1,(Kk w1 (by omega)).trans w2⟩
   rw[←List.append_assoc]
   exact z2.frm1 (Frm.set z1.wf w1 (o:=O .ready)) z1.wf w1 (on1 _) (on2 _)
 ·rintro s ⟨k1,k2,k3,k4⟩
  exact⟨k1.Zi9 (by have:=hx.nx;simp only;omega),k2.Zb k1.wf,by rw[Ki (by simp only;omega)];exact k3⟩
 ·rintro _ s ⟨k1,k2,k3⟩
  refine .inl ⟨k3,?_⟩
  have f:=Frm.Ub (st:=s) k1.wf (s1.nx+1)
  have y1:Ext st0 ⟨Ub s.h (s1.nx+1),s.nx⟩:=k1.Ma f (by have:=hx.nx;simp;omega)
  have y2:=k2.frm1 f k1.wf k3 (on1 _) (on2 _)
  rw[g4]
  refine(Ci H.Ql y1 46 rfl y2 (by simp;omega)).mono ?_
  rintro _ s2 ⟨x2,b2⟩
  simp[go_sem,g5,a2]
  refine(Zrq H st0 16 r true _ q _ s2 (by omega) hr (by simp) (.inl rfl) (fun _=>rfl) (by simp;omega) x2 b2 (by simp[go_sem]) (by simp[go_sem]) (by simp[go_sem])).mono ?_
  rintro x e' s3 ⟨rfl,x3,b3,g4'⟩
  have:=Zfl 17 r
  simp[go_sem,g4']
  refine(Zuc H.Km x3 b3 (by simp;omega) (by simp;omega)).mono ?_
  rintro v s4 ⟨rfl,x4⟩
  simp[go_sem]
  exact x4
theorem Zpf (H:B.Mk T) (hwf:st.Wf) {p:Nat} {n:Int} (hp:Zh st.h p=some (.cells 3 true [.int .i64 n])) (h0: -4294967296≤n) (h1:n≤4294967296):Z9 T st (.fn 136 [] [.ptr p 0]) [] (.tuple [.str (Hv n),.int .i64 0,.int .i64 0]):=by
 refine Zm H.e H.f rfl ?_
 have hx:=Ext.new hwf (.cells 84 false [.J8,.Zc])
 have hb:Bd st ⟨(st.nx,.cells 84 false [.J8,.Zc])::st.h,st.nx+1⟩ st.nx []:=⟨Nat.le_refl _,.J8,.Zc,by simp[Zg],.inl rfl,.nil _ _,by simp[AV.nms]⟩
 have hp0:=hx.get hwf hp
 refine cut (c:=pb 0) rfl (by intro l;simp[pb,B.Jq,O3]) (fun x e' s'=>x= .norm∧s'=st∧Zl e' 0= .ptr p 0) ?_ ?_
 ·simp only[pb,B.Jq,O3]
  simp[go_sem]
 rintro _ e1 s1 ⟨rfl,hst,g0⟩
 rw[Zal,hst]
 clear hst
 refine cut (c:=pb 1) rfl (by intro l;simp[pb,B.Jq,O3]) (fun x e' s'=>x= .norm∧s'=⟨(st.nx,.cells 84 false [.J8,.Zc])::st.h,st.nx+1⟩∧Zl e' 0= .ptr p 0∧Zl e' 4= .ptr st.nx 0) ?_ ?_
 ·simp only[pb,B.Jq,O3]
  simp[go_sem,NO.run,g0]
 rintro _ e2 s2 ⟨rfl,hst,g0,g4⟩
 rw[Zal,hst]
 clear hst
 have hp1:Q5 (⟨(st.nx,.cells 84 false [.J8,.Zc])::st.h,st.nx+1⟩:St).h p 0=some (.int .i64 n):=G1 hp0
 generalize hS:(⟨(st.nx,.cells 84 false [.J8,.Zc])::st.h,st.nx+1⟩:St)=sA at hx hb hp1⊢
 clear hS
 refine cut (c:=pb 2) rfl (by intro l;simp[pb,B.Jq,O3]) (fun x e' s'=>x= .norm∧s'=sA∧Zl e' 4= .ptr st.nx 0∧Zl e' 5= .int .i64 n) ?_ ?_
 ·simp only[pb,B.Jq,O3]
  simp[go_sem,RO.run,g0,g4,hp1]
 rintro _ e3 s3 ⟨rfl,hst,g4,g5⟩
 rw[Zal,hst]
 clear hst
 refine cut (c:=pb 3) rfl (by intro l;simp[pb,B.Jq,O3]) (fun x e' s'=>x= .norm∧Zl e' 4= .ptr st.nx 0∧∃(u:Nat) (pre:List UInt8),Zl e' 5= .int .i64 (u:Int)∧u≤4294967296∧pre.length≤1∧Ext st s'∧Bd st s' st.nx pre∧Hv n=pre++(Lib.decDigits (u / 65536)++(46::Fi 17 (u % 65536)))) ?_ ?_
 ·simp only[pb,B.Jq,O3]
  by_cases hn:n<0
  ·obtain⟨u,hu⟩:∃u:Nat,n= -(u:Int):=⟨n.natAbs,by omega⟩
   have e1:IntKind.i64.wrap (-n)=u:=by rw[Zo (by omega) (by omega)];omega
   simp[go_sem,g4,g5,hn]
   refine(Ci H.Ql hx 45 rfl hb (by simp)).mono ?_
   rintro _ s1 ⟨x1,b1⟩
   simp[go_sem,g4,g5,e1]
   exact⟨u,rfl,by omega,[45],by simp,x1,by simpa using b1,by rw[hu,Zt0 (by omega)];rfl⟩
  ·obtain⟨u,rfl⟩:=Int.eq_ofNat_of_zero_le (show 0≤n by omega)
   simp[go_sem,g4,g5,hn]
   exact⟨u,rfl,by omega,[],by simp,hx,hb,by rw[Zt1];rfl⟩
 rintro _ e4 s4 ⟨rfl,g4,u,pre,g5,hu,hpre,x4,b4,hpr⟩
 rw[Zal,hpr]
 refine(Zrr H st (q:=st.nx) hu hpre x4 b4 g4 g5).mono ?_
 rintro _ e5 s5 ⟨rfl,x5,k1,k2,k3⟩
 refine⟨.inr rfl,?_⟩
 simp[B.Jq,Zt,Qn,Jk,RO.run,k1,k2,k3,x5]
theorem Zh8 (H:B.Oz T) (hwf:st.Wf) {n:Int} (h0: -2147483648≤n) (h1:n≤2147483648):Z9 T st (.fn 133 [] []) [.int .i64 n] (.tuple [.str (Hv n),.int .i64 0]):=by
 refine Zm H.e H.f rfl ?_
 have hx:=Ext.new hwf (.cells 3 true [.int .i64 n])
 have hx2:=hx.trans (Ext.new hx.wf (.cells 3 false [.int .i64 n]))
 simp only[Nat.add_assoc,Nat.reduceAdd]at hx2
 have hr:Z9 T ⟨(st.nx+1,.cells 3 false [.int .i64 n])::(st.nx,.cells 3 true [.int .i64 n])::st.h,st.nx+2⟩ (.fn 137 [] []) [.fn 136 [] [.ptr st.nx 0],.slice (st.nx+1) 0 1 (.known 1)] (.tuple [.str (Hv n),.int .i64 0]):=by
  refine Zm H.Jw.e H.Jw.f rfl ?_
  simp[B.Jw,go_sem]
  rw[Zs]
  simp[B.Lv,go_sem,RO.run,Q5,Zg]
  refine(Zg2 H.Jw.Rc hx2.wf).use fun s1 x1=> ?_
  simp[go_sem,h0,h1]
  rw[Zs,show IntKind.i64.wrap 1=1 from rfl]
  simp[B.Lv,go_sem]
  have hp:Zh s1.h st.nx=some (.cells 3 true [.int .i64 n]):=x1.get hx2.wf (by simp[Zg])
  refine(Zpf H.Jq x1.wf hp (by omega) (by omega)).use fun s2 x2=> ?_
  simp[go_sem]
  refine(Zg2 H.Jw.Rc x2.wf).use fun s3 x3=> ?_
  simp[go_sem]
  exact(x1.trans x2).trans x3
 simp[B.Hw,go_sem,NO.run,RO.run,Q5,Zg,Nat.add_assoc]
 refine hr.use fun s1 x1=> ?_
 simp[go_sem]
 exact hx2.trans x1
end Go.Ev

/- lex.Text; the token of a draft. -/
namespace Go.Ev
open Go
variable {T : Tab} {st : St}
def Pow (st:St):Prop:=∃m cs,Zh st.h m=some (.Wz B.Aa cs)∧cs.map B.Zvk=Lib.pow10Tab.map some
theorem Pow.ext {s:St} (h:Pow st) (x:Ext st s) (hw:st.Wf):Pow s:=by
 obtain⟨m,cs,h1,h2⟩:=h
 exact⟨m,cs,x.get hw h1,h2⟩
theorem Zv2 (H:B.C3 T) (hp:Pow st) {n:Int} (h0: -9223372036854775808≤n) (h1:n≤9223372036854775807):call T (.fn 132 [] []) [.int .i64 n] st=some (.str (Lib.itoa n),st):=by
 obtain⟨m,cs,k1,k2⟩:=hp
 rw[Rn H.en]
 simp only[List.nil_append,List.append_nil,B.Uo]
 rw[if_pos ⟨Zv0 k1 k2,h0,h1⟩]
def tb:Nat→Zv
 | 0=>B.O5.body
 | k+1=>(tb k).b
end Go.Ev

/- The token of a draft; LexTexts. -/
namespace Go.Ev
open Go
variable {T : Tab} {st : St}
end Go.Ev

/- LexTexts: the law told. -/
namespace Go.Ev
open Go
variable {T : Tab} {st : St}
end Go.Ev

/- Structs of two numbers and a text among the arguments; a table of the library among the objects. -/
namespace Go.Ev
open Go Go.RowKit Go.ChangeShapes Go.WideShapes Go.Deep Go.Joins
def Zko:List AV:=Lib.pow10Tab.map fun z=> .int .u64 z
theorem Zsh {X:Cx} {N:Nu}:∀zs:List Int,VRs X N (zs.map fun z=> .int .u64 z) (zs.map fun z=>Value.int .u64 z)
 | []=>rfl
 | z::zs=>⟨_,_,rfl,rfl,Zsh zs⟩
theorem wf_i32 {n:Int} (h:(Lit.int .i32 n).wf=true): -2147483648≤n∧n≤2147483647:=by
 simp[Lit.wf,IntKind.min,IntKind.max,IntKind.signed,IntKind.bits]at h
 omega
end Go.Ev

/- strings.Join as an entry of the table. -/
namespace Go.Ev
open Go Go.RowKit
variable {X : Cx} {D : Mc} {T : Tab} {st : St}
namespace B
end B
end Go.Ev

/- The abstract bodies of the functions, printed by a program of this work. -/
namespace Go.Ev.B
open Go
end Go.Ev.B

/- The plain law of LexBack: quoted strings, names and ints are read back. -/
namespace Go.Ev
open Go
end Go.Ev

/- The plain law of bases: digits in any base are read back. -/
namespace Go.Ev
open Go
end Go.Ev

/- The plain law of LexBack: the decimal texts of ints and reals are read back. -/
namespace Go.Ev
open Go
end Go.Ev

/- The plain law of LexBack: what a valid token's text is; texts are distinct. -/
namespace Go.Ev
open Go
end Go.Ev

/- LexBack: the law told. -/
namespace Go.Ev
open Go
variable {T : Tab} {st : St}
end Go.Ev

/- What the functions of ascii tell: octets. -/
namespace Go.Ev
open Go
variable {T : Tab} {st : St}
def Zsw (c:UInt8):Bool:=decide (c=0) || (decide (c=9) || (decide (c=10) || (decide (c=12) || (decide (c=13) || decide (c=32)))))
def nibV (c:UInt8):Int:=if 48≤c.toNat∧c.toNat≤57 then(c.toNat:Int) - 48 else if 65≤c.toNat∧c.toNat≤70 then(c.toNat:Int) - 55 else if 97≤c.toNat∧c.toNat≤102 then(c.toNat:Int) - 87 else -1
end Go.Ev

/- What is skipped: white space and comments; the regular characters ahead. -/
namespace Go.Ev
open Go
variable {T : Tab} {st : St}
def runN (p:UInt8→Bool):List UInt8→Nat
 | []=>0
 | c::r=>if p c=true then runN p r+1 else 0
def skp:Bool→List UInt8→Nat
 | _,[]=>0
 | true,c::r=>if c=10∨c=13 then skp false r+1 else skp true r+1
 | false,c::r=>if Zsw c=true then skp false r+1 else if c=37 then skp true r+1 else 0
end Go.Ev

/- The reader skips white space and comments. -/
namespace Go.Ev
open Go
variable {T : Tab} {st : St}
end Go.Ev

/- Tokens with a text; numbers out of octets. -/
namespace Go.Ev
open Go
variable {T : Tab} {st : St}
abbrev T3:=(Int×Int×List UInt8)×Nat×Int
def Zaz (e:Int):T3:=((0,0,[]),0,e)
def Zhi (k:Int) (x:List UInt8) (n:Nat):T3:=
 if(k=6∧1000<x.length)∨(k≠6∧100<x.length)then Zaz 26 else if Zaej k 0 x=true then((k,0,x),n,0)else Zaz 37
end Go.Ev

/- Numbers out of octets. -/
namespace Go.Ev
open Go
variable {T : Tab} {st : St}
def numF (n:Int):List UInt8→Int
 | []=>n
 | c::r=>numF (n*256+c.toNat) r
def numU (s:List UInt8):Int:=numF 0 s
def numS:List UInt8→Int
 | []=>0
 | c::r=>numF (if 128≤c.toNat then -1 else 0) (c::r)
end Go.Ev

/- Binary tokens. -/
namespace Go.Ev
open Go
variable {T : Tab} {st : St}
def fixR (k:Int) (long:Nat) (rest:List UInt8):T3:=if rest.length<long then Zaz 37 else((k,numS (rest.take long),[]),1+long,0)
def Zqe (k:Int) (long:Nat) (rest:List UInt8):T3:=
 if rest.length<long then Zaz 37
 else if(rest.drop long).length<(numU (rest.take long)).toNat then Zaz 37
 else Zhi k ((rest.drop long).take (numU (rest.take long)).toNat) (1+long+(numU (rest.take long)).toNat)
def binR (c:UInt8) (rest:List UInt8):T3:=
 if c=128 then fixR 1 4 rest else if c=129 then fixR 1 1 rest else if c=130 then fixR 1 2 rest else if c=131 then fixR 2 4 rest
 else if c=132 then Zqe 6 1 rest else if c=133 then Zqe 6 2 rest else if c=134 then Zqe 4 1 rest else if c=135 then Zqe 3 1 rest else if c=136 then Zqe 5 1 rest
 else Zaz 37
end Go.Ev

/- The reference's binary tokens. -/
namespace Go.Ev
open Go
variable {T : Tab} {st : St}
end Go.Ev

/- The reference's Unhex. -/
namespace Go.Ev
open Go
variable {T : Tab} {st : St}
def hexG:List UInt8→Nat→List Nat→Option (List Nat×Nat)
 | [],_,_=>none
 | c::r,i,l=>if c=62 then some (l,i+1)else if Zsw c=true then hexG r (i+1) l else if nibV c<0 then none else hexG r (i+1) (l++[(nibV c).toNat])
def prs:List Nat→List UInt8
 | []=>[]
 | [a]=>[UInt8.ofNat (16*a)]
 | a::b::r=>UInt8.ofNat (16*a+b)::prs r
def hexT (s:List UInt8):List UInt8×Nat×Int:=
 if 65536<s.length then([],0,3)else match hexG s 0 []with
  | none=>([],0,5)
  | some (l,n)=>(prs l,n,0)
end Go.Ev

/- The reference's Unhex told. -/
namespace Go.Ev
open Go
variable {T : Tab} {st : St}
end Go.Ev

/- Decoders that take octets one by one: what they write to, and the octets that are not blank. -/
namespace Go.Ev
open Go
variable {T : Tab} {st : St}
end Go.Ev

/- What a decoder reads: over any step. -/
namespace Go.Ev
open Go
variable {T : Tab} {st : St}
def runD {σ:Type} (stepF:σ→UInt8→Option (Bool×σ)):σ→List UInt8→Nat→Option (σ×Nat)
 | _,[],_=>none
 | x,c::r,i=>if Zsw c=true then runD stepF x r (i+1)else match stepF x c with
   | none=>none
   | some (true,x')=>some (x',i+1)
   | some (false,x')=>runD stepF x' r (i+1)
def Zahb {σ:Type} (stepF:σ→UInt8→Option (Bool×σ)) (out:σ→List UInt8) (x0:σ) (s:List UInt8):List UInt8×Nat×Int:=
 if 65536<s.length then([],0,3)else match runD stepF x0 s 0 with
  | none=>([],0,5)
  | some (x,n)=>if 65536<(out x).length then([],0,3)else(out x,n,0)
end Go.Ev

/- What a decoder reads, told. -/
namespace Go.Ev
open Go
variable {T : Tab} {st : St}
end Go.Ev

/- ascii.Unhex told. -/
namespace Go.Ev
open Go
variable {T : Tab} {st : St}
end Go.Ev

/- What a decoder of base 85 reads, told: the same as for digits. -/
namespace Go.Ev
open Go
variable {T : Tab} {st : St}
end Go.Ev

/- Numbers in base 85. -/
namespace Go.Ev
open Go
variable {T : Tab} {st : St}
def d85 (n:Nat) (c:UInt8):Nat:=n*85+(c.toNat - 33)
def v85:List UInt8→Nat→Nat
 | [],n=>n
 | c::r,n=>v85 r (d85 n c)
def oct4 (n:Nat):List UInt8:=[UInt8.ofNat (n / 16777216),UInt8.ofNat (n / 65536),UInt8.ofNat (n / 256),UInt8.ofNat n]
theorem Fs {n:Int} (h0:0≤n) (h1:n<18446744073709551616):IntKind.u64.wrap n=n:=by
 simp[IntKind.wrap,IntKind.signed,IntKind.bits];omega
theorem Zye {a b:Nat} (hb:b≤64):Zed .u64 (a:Int) (b:Int)=((a / 2 ^ b:Nat):Int):=by
 rw[Zyd (by omega) hb];push_cast;rfl
end Go.Ev

/- ascii.Unbase85: its steps. -/
namespace Go.Ev
open Go
variable {T : Tab} {st : St}
def Zadn (pt:List UInt8):Option (List UInt8):=
 if pt.length=1 then none else if pt.length=0 then some []
 else if v85 (pt++List.replicate (5 - pt.length) 117) 0<4294967296 then some ((oct4 (v85 (pt++List.replicate (5 - pt.length) 117) 0)).take (pt.length - 1))else none
end Go.Ev

/- ascii.Unbase85 told. -/
namespace Go.Ev
open Go
variable {T : Tab} {st : St}
abbrev TX:=List UInt8×List UInt8×Bool
def Zagh (o pt:List UInt8):Option (Bool×TX):=
 if pt.length=5 then if v85 pt 0<4294967296 then some (false,(o++oct4 (v85 pt 0),[],false))else none else some (false,(o,pt,false))
def Zzg (x:TX) (c:UInt8):Option (Bool×TX):=
 if x.2.2=true then if c=62 then(Zadn x.2.1).map fun d=>(true,(x.1++d,[],true))else none
 else if c=126 then some (false,(x.1,x.2.1,true))
 else if c=122 then if x.2.1.length=0 then some (false,(x.1++[0,0,0,0],[],false))else none
 else if c.toNat<33∨117<c.toNat then none
 else Zagh x.1 (x.2.1++[c])
def Zabw (x:TX):List UInt8:=x.1
end Go.Ev

/- Unbase85 told; parts of the reference's. -/
namespace Go.Ev
open Go
variable {T : Tab} {st : St}
def b85T (s:List UInt8):List UInt8×Nat×Int:=Zahb Zzg Zabw ([],[],false) s
end Go.Ev

/- The reference's Unbase85 told. -/
namespace Go.Ev
open Go
variable {T : Tab} {st : St}
end Go.Ev

/- The readers of the scanner. -/
namespace Go.Ev
open Go
variable {T : Tab} {st : St}
def Zabe (s:List UInt8):T3:=if(Ze9 s).2.2=0 then Zhi 6 (Ze9 s).1 (Ze9 s).2.1 else if(Ze9 s).2.2=26 then Zaz 26 else Zaz 37
def Zacf (front:Nat) (u:List UInt8×Nat×Int):T3:=if u.2.2=0 then Zhi 6 u.1 (front+u.2.1)else if u.2.2=3 then Zaz 26 else Zaz 37
def Zagw (R:List UInt8):T3:=if R.head? =some 60 then Zhi 3 [60,60] 2 else if R.head? =some 126 then Zacf 2 (b85T (R.drop 1))else Zacf 1 (hexT R)
def Zx8 (R:List UInt8):T3:=if R.head? =some 62 then Zhi 3 [62,62] 2 else Zaz 37
def Zaep (R:List UInt8):T3:=
 if R.head? =some 47 then Zhi 5 ((R.drop 1).take (runN Ap (R.drop 1))) (2+runN Ap (R.drop 1))else Zhi 4 (R.take (runN Ap R)) (1+runN Ap R)
end Go.Ev

/- What begins with the sign less; the token at a reader's place. -/
namespace Go.Ev
open Go
variable {T : Tab} {st : St}
def Zahm (s:List UInt8):T3:=
 if(wordT (s.take (runN Ap s))).2.2.2≠0 then Zaz (wordT (s.take (runN Ap s))).2.2.2
 else(((wordT (s.take (runN Ap s))).1,(wordT (s.take (runN Ap s))).2.1,(wordT (s.take (runN Ap s))).2.2.1),runN Ap s,0)
def tokS:List UInt8→T3
 | []=>Zaz 37
 | c::R=>
   if c=40 then Zabe (c::R)else if c=41 then Zaz 37 else if c=123 then((7,0,[]),1,0)else if c=125 then((8,0,[]),1,0)
   else if c=91∨c=93 then Zhi 3 [c] 1 else if c=60 then Zagw R else if c=62 then Zx8 R else if c=47 then Zaep R
   else if 128≤c.toNat∧c.toNat<160 then binR c R else Zahm (c::R)
end Go.Ev

/- The token at a reader's place; Next. -/
namespace Go.Ev
open Go
variable {T : Tab} {st : St}
def Sf (s:List UInt8) (i:Int):T3:=
 if 65536<s.length then Zaz 3
 else if i<0∨(s.length:Int)<i then Zaz 2
 else let k:=i.toNat+skp false (s.drop i.toNat)
  if k=s.length then((0,0,[]),k,4)else((tokS (s.drop k)).1,k+(tokS (s.drop k)).2.1,(tokS (s.drop k)).2.2)
end Go.Ev

/- The reference's token. -/
namespace Go.Ev
open Go
variable {T : Tab} {st : St}
end Go.Ev

/- The reference's Next. -/
namespace Go.Ev
open Go
variable {T : Tab} {st : St}
end Go.Ev

/- Lists of tokens. -/
namespace Go.Ev
open Go
variable {T : Tab} {st : St}
theorem P2 {h:Heap} {n off c o k:Nat} {cs:List AV} (a:Qg h n off c=some cs) (hk:o+k≤c):Qg h n (off+o) k=some ((cs.drop o).take k):=by
 unfold Qg at a⊢
 split at a
 all_goals
  first
  | (split at a
     ·rename_i hle
      injection a with a
      rw[if_pos (by omega),←a,List.drop_take,List.drop_drop,List.take_take,Nat.min_eq_left (by omega)]
     ·cases a)
  | cases a
structure Dra where
 k:Nat
 n:Int
 t:List UInt8
instance:Inhabited Dra:=⟨⟨0,0,[]⟩⟩
end Go.Ev

/- Objects, cells and heaps of the language, and how they lie in the evaluator's blocks. -/
namespace Go.Ev
open Go
variable {T : Tab} {st st' : St}
structure Ob where
 k:Int
 x:Bool
 n:Int
 t:List UInt8
 r:Int
 o:Int
 l:Int
 deriving DecidableEq,Inhabited
def Ob.A (o:Ob):List AV:=[.int .i64 o.k,.bool o.x,.int .i64 o.n,.str o.t,.int .i64 o.r,.int .i64 o.o,.int .i64 o.l]
def Ob.v (o:Ob):AV:= .agg o.A
def Ku (l:List Ob):List AV:=l.flatMap Ob.A
theorem Ob.Zxa (o:Ob):o.A.length=7:=rfl
theorem Oa (o:Ob) (l:List Ob):Ku (o::l)=o.A++Ku l:=rfl
theorem E1 (a b:List Ob):Ku (a++b)=Ku a++Ku b:=by simp[Ku]
theorem Gz:∀l:List Ob,(Ku l).length=l.length*7
 | []=>rfl
 | o::l=>by rw[Oa,List.length_append,Gz l,List.length_cons,Ob.Zxa];omega
theorem Zgg:∀(l:List Ob) (i:Nat),(Ku l).drop (i*7)=Ku (l.drop i)
 | [],i=>by simp[Ku]
 | o::l,0=>by simp
 | o::l,i+1=>by
   rw[Oa,show (i+1)*7=o.A.length+i*7 by rw[Ob.Zxa];omega,←List.drop_drop,List.drop_left,Zgg l i,List.drop_succ_cons]
theorem Zgh:∀(l:List Ob) (i:Nat),(Ku l).take (i*7)=Ku (l.take i)
 | [],i=>by simp[Ku]
 | o::l,0=>by simp[Ku]
 | o::l,i+1=>by
   rw[Oa,show (i+1)*7=o.A.length+i*7 by rw[Ob.Zxa];omega,List.take_length_add_append,Zgh l i,List.take_succ_cons,Oa]
theorem Zaa5 {l:List Ob} {i:Nat} {o:Ob} (h:l[i]? =some o):((Ku l).drop (i*7)).take 7=o.A:=by
 rw[Zgg,show 7=1*7 by rfl,Zgh]
 have:(l.drop i).take 1=[o]:=by
  rw[List.getElem?_eq_some_iff]at h
  obtain⟨hi,h⟩:=h
  rw[List.drop_eq_getElem_cons hi,h];rfl
 rw[this];simp[Ku]
def Zc9 (len:Nat):Cap→Prop
 | .known c=>len≤c
 | _=>True
def Qb.ow:Qb→Bool
 | .cells _ false _ | .buf .. =>true
 | _=>false
theorem Qb.Zact {o:Qb} (h:o.ow=true):o.lc=false:=by
 unfold Qb.ow at h
 split at h
 ·rfl
 ·rfl
 ·cases h
def Zbr (h:Heap) (n:Nat):Prop:=∃o,Zh h n=some o∧o.ow=true
theorem Zbr.Ma {n:Nat} {S:List Nat} (a:Zbr st.h n) (x:Frm S st st') (hw:st.Wf) (hn:n∉S):Zbr st'.h n:=by
 obtain⟨o,h1,h2⟩:=a
 exact⟨o,x.get hw h1 hn,h2⟩
theorem Zbr.Zb {n c:Nat} (a:Zbr st.h n) (hw:st.Wf):Zbr (Go.Ev.Zb c st.h) n:=by
 obtain⟨o,h1,h2⟩:=a
 exact⟨o,Qh hw h1 (Qb.Zact h2),h2⟩
def RdS (es:Nat) (h:Heap) (v:AV) (k:Nat) (cs:List AV):Prop:=cs.length=k*es∧((v= .Zc∧k=0)∨∃n off cp,v= .slice n off k cp∧Zc9 k cp∧Zbr h n∧Qg h n off (k*es)=some cs)
theorem RdS.nil (es:Nat) (h:Heap):RdS es h .Zc 0 []:=⟨by simp,.inl ⟨rfl,rfl⟩⟩
theorem RdS.rd {es:Nat} {h:Heap} {v:AV} {k:Nat} {cs:List AV} (a:RdS es h v k cs):Rd h v es k cs:=by
 obtain⟨h0,⟨h1,h2⟩ | ⟨n,off,cp,h1,h2,h3,h4⟩⟩:=a
 ·exact .inl ⟨h1,h2,List.length_eq_zero_iff.1 (by rw[h0,h2];simp)⟩
 ·exact .inr ⟨n,off,cp,h1,h4⟩
theorem RdS.Ma {es:Nat} {v:AV} {k:Nat} {cs:List AV} {S:List Nat} (a:RdS es st.h v k cs) (x:Frm S st st') (hw:st.Wf) (hn:∀n∈v.nms,n∉S):RdS es st'.h v k cs:=by
 obtain⟨h0,⟨h1,h2⟩ | ⟨n,off,cp,h1,h2,h3,h4⟩⟩:=a
 ·exact⟨h0,.inl ⟨h1,h2⟩⟩
 ·have hn':n∉S:=hn n (by simp[h1,AV.nms])
  refine⟨h0,.inr ⟨n,off,cp,h1,h2,h3.Ma x hw hn',?_⟩⟩
  obtain⟨o,ho⟩:=Cf h4
  have:=x.get hw ho hn'
  unfold Qg at h4⊢
  rw[ho]at h4
  rw[this]
  exact h4
theorem RdS.ext {es:Nat} {v:AV} {k:Nat} {cs:List AV} (a:RdS es st.h v k cs) (x:Ext st st') (hw:st.Wf):RdS es st'.h v k cs:=a.Ma (x.fr []) hw (by simp)
theorem RdS.Zb {es c:Nat} {v:AV} {k:Nat} {cs:List AV} (a:RdS es st.h v k cs) (hw:st.Wf):RdS es (Go.Ev.Zb c st.h) v k cs:=by
 obtain⟨h0,⟨h1,h2⟩ | ⟨n,off,cp,h1,h2,h3,h4⟩⟩:=a
 ·exact⟨h0,.inl ⟨h1,h2⟩⟩
 ·refine⟨h0,.inr ⟨n,off,cp,h1,h2,h3.Zb hw,?_⟩⟩
  obtain⟨o,h5,h6⟩:=h3
  have:=Qh (c:=c) hw h5 (Qb.Zact h6)
  unfold Qg at h4⊢
  rw[h5]at h4
  rw[this]
  exact h4
theorem RdS.sc {es:Nat} {h:Heap} {v:AV} {k:Nat} {cs:List AV} (a:RdS es h v k cs):v.sc=true:=by
 obtain⟨h0,⟨h1,h2⟩ | ⟨n,off,cp,h1,h2,h3,h4⟩⟩:=a <;> rw[h1] <;> rfl
theorem RdS.lt {es:Nat} {v:AV} {k:Nat} {cs:List AV} (a:RdS es st.h v k cs) (hw:st.Wf):∀n∈v.nms,n<st.nx:=a.rd.lt hw
theorem RdS.sub3 {es:Nat} {h:Heap} {v:AV} {k:Nat} {cs:List AV} (a:RdS es h v k cs) {ev:AO→AV} {x lo hi:AO} {i j:Int} (hx:ev x=v) (hlo:ev lo= .int .i64 i) (hhi:ev hi= .int .i64 j) (h0:0≤i) (h1:i≤j) (h2:j≤k):
  ∃v',PO.run ev (.Zia es x (some lo) (some hi) (some hi))=some v'∧RdS es h v' (j.toNat - i.toNat) ((cs.drop (i.toNat*es)).take ((j.toNat - i.toNat)*es)):=by
 obtain⟨i,rfl⟩:=Int.eq_ofNat_of_zero_le h0
 obtain⟨j,rfl⟩:=Int.eq_ofNat_of_zero_le (by omega:0≤j)
 simp only[Int.ofNat_eq_natCast,Int.toNat_natCast]
 have hij:i≤j:=by omega
 have hjk:j≤k:=by omega
 obtain⟨hl,⟨rfl,rfl⟩ | ⟨n,off,cp,rfl,hcp,hst,hrd⟩⟩:=a
 ·have hi0:i=0:=by omega
  have hj0:j=0:=by omega
  subst hi0 hj0
  have hcs:cs=[]:=List.length_eq_zero_iff.1 (by rw[hl];simp)
  subst hcs
  refine⟨.Zc,?_,by simp,.inl ⟨rfl,rfl⟩⟩
  simp[PO.run,hx,hlo,hhi,X1,Kw,Yc,bnd,X6,X0]
 ·have hb:Kw k (X6 k cp) (some (.int .i64 (i:Int))) (some (.int .i64 (j:Int))) (some (.int .i64 (j:Int)))=some (i,j,some j):=by
   have ht:(j:Int)≤(X6 k cp:Nat):=by
    cases cp with
    | known c=>simp only[Zc9]at hcp;simp only[X6];omega
    | _=>simp only[X6];omega
   simp only[Kw,Yc,bnd,Int.toNat_natCast]
   rw[if_pos ⟨by omega,ht⟩]
   simp only[Int.toNat_natCast,if_pos (⟨by omega,Int.le_refl _⟩:(0:Int)≤(j:Int)∧(j:Int)≤(j:Int)),if_pos (⟨by omega,by omega⟩:(0:Int)≤(i:Int)∧(i:Int)≤(j:Int))]
  have hlen:((cs.drop (i*es)).take ((j - i)*es)).length=(j - i)*es:=by
   rw[List.length_take,List.length_drop,hl]
   have h3:i*es+(j - i)*es≤k*es:=by
    rw[←Nat.add_mul]
    exact Nat.mul_le_mul_right es (by omega)
   omega
  have hpart:Qg h n (off+i*es) ((j - i)*es)=some ((cs.drop (i*es)).take ((j - i)*es)):=P2 hrd (by
   rw[←Nat.add_mul]
   exact Nat.mul_le_mul_right es (by omega))
  simp only[PO.run,hx,hlo,hhi,Option.map_some,X1,hb,X0]
  by_cases e:j - i=0
  ·rw[e]
   refine⟨_,rfl,by simp,.inr ⟨n,off,.known 0,rfl,Nat.le_refl _,hst,?_⟩⟩
   have:=P2 hrd (o:=0) (k:=0) (by omega)
   simp only[Nat.add_zero,List.take_zero,Nat.zero_mul]at this⊢
   exact this
  ·obtain⟨z,hz⟩:∃z,j - i=z+1:=⟨j - i - 1,by omega⟩
   rw[hz]at hpart hlen⊢
   exact⟨_,rfl,hlen,.inr ⟨n,_,_,rfl,Nat.le_refl _,hst,hpart⟩⟩
def RdO (h:Heap) (v:AV) (l:List Ob):Prop:=RdS 7 h v l.length (Ku l)
theorem RdO.nil (h:Heap):RdO h .Zc []:=RdS.nil 7 h
theorem RdO.ext {v:AV} {l:List Ob} (a:RdO st.h v l) (x:Ext st st') (hw:st.Wf):RdO st'.h v l:=RdS.ext a x hw
structure Ce where
 k:Int
 b:List UInt8
 it:List Ob
 ks:List Ob
 vs:List Ob
 mx:Int
 at':Int
 deriving DecidableEq,Inhabited
def CeR (h:Heap) (c:Ce) (cs:List AV):Prop:=∃a b d,cs=[.int .i64 c.k,.str c.b,a,b,d,.int .i64 c.mx,.int .i64 c.at']∧RdO h a c.it∧RdO h b c.ks∧RdO h d c.vs
theorem CeR.len {h:Heap} {c:Ce} {cs:List AV} (a:CeR h c cs):cs.length=7:=by
 obtain⟨_,_,_,rfl,_⟩:=a;rfl
theorem CeR.sc {h:Heap} {c:Ce} {cs:List AV} (a:CeR h c cs):cs.all AV.sc=true:=by
 obtain⟨a,b,d,rfl,h1,h2,h3⟩:=a
 simp only[List.all_cons,List.all_nil,RdS.sc h1,RdS.sc h2,RdS.sc h3]
 rfl
theorem CeR.ext {c:Ce} {cs:List AV} (a:CeR st.h c cs) (x:Ext st st') (hw:st.Wf):CeR st'.h c cs:=by
 obtain⟨a,b,d,h0,h1,h2,h3⟩:=a
 exact⟨a,b,d,h0,h1.ext x hw,h2.ext x hw,h3.ext x hw⟩
theorem CeR.Zb {c:Ce} {cs:List AV} {k:Nat} (a:CeR st.h c cs) (hw:st.Wf):CeR (Go.Ev.Zb k st.h) c cs:=by
 obtain⟨a,b,d,h0,h1,h2,h3⟩:=a
 exact⟨a,b,d,h0,RdS.Zb h1 hw,RdS.Zb h2 hw,RdS.Zb h3 hw⟩
def U2 (h:Heap):List Ce→List AV→Prop
 | [],cs=>cs=[]
 | c::l,cs=>∃x r,cs=x++r∧CeR h c x∧U2 h l r
theorem U2.len {h:Heap}:∀{l:List Ce} {cs:List AV},U2 h l cs→cs.length=l.length*7
 | [],_,a=>by cases a;rfl
 | c::l,_,⟨x,r,e,h1,h2⟩=>by subst e;rw[List.length_append,h1.len,h2.len,List.length_cons];omega
theorem U2.sc {h:Heap}:∀{l:List Ce} {cs:List AV},U2 h l cs→cs.all AV.sc=true
 | [],_,a=>by cases a;rfl
 | c::l,_,⟨x,r,e,h1,h2⟩=>by subst e;rw[List.all_append,h1.sc,h2.sc];rfl
theorem U2.ext (x:Ext st st') (hw:st.Wf):∀{l:List Ce} {cs:List AV},U2 st.h l cs→U2 st'.h l cs
 | [],_,a=>a
 | c::l,_,⟨y,r,e,h1,h2⟩=>⟨y,r,e,h1.ext x hw,U2.ext x hw h2⟩
theorem U2.Zb {k:Nat} (hw:st.Wf):∀{l:List Ce} {cs:List AV},U2 st.h l cs→U2 (Go.Ev.Zb k st.h) l cs
 | [],_,a=>a
 | c::l,_,⟨y,r,e,h1,h2⟩=>⟨y,r,e,h1.Zb hw,U2.Zb hw h2⟩
theorem U2.snoc {h:Heap} {c:Ce} {x:List AV} (hc:CeR h c x):∀{l:List Ce} {cs:List AV},U2 h l cs→U2 h (l++[c]) (cs++x)
 | [],_,a=>by cases a;exact⟨x,[],by simp,hc,rfl⟩
 | d::l,_,⟨y,r,e,h1,h2⟩=>⟨y,r++x,by rw[e,List.append_assoc],h1,U2.snoc hc h2⟩
theorem U2.at {h:Heap}:∀{l:List Ce} {cs:List AV} {i:Nat} {c:Ce},U2 h l cs→l[i]? =some c→CeR h c ((cs.drop (i*7)).take 7)
 | [],_,_,_,_,hc=>by simp at hc
 | d::l,_,0,c,⟨x,r,e,h1,h2⟩,hc=>by
   simp at hc
   subst hc e
   rw[Nat.zero_mul,List.drop_zero,List.take_append_of_le_length (by rw[h1.len];omega),List.take_of_length_le (by rw[h1.len];omega)]
   exact h1
 | d::l,_,i+1,c,⟨x,r,e,h1,h2⟩,hc=>by
   have:=h2.at (i:=i) (c:=c) (by simpa using hc)
   subst e
   rw[show (i+1)*7=x.length+i*7 by rw[h1.len];omega,←List.drop_drop,List.drop_left]
   exact this
theorem U2.put {h:Heap} {c:Ce} {x:List AV} (hc:CeR h c x):∀{l:List Ce} {cs:List AV} {i:Nat},U2 h l cs→i<l.length→U2 h (l.set i c) (Qd cs (i*7) x):=by
 intro l
 induction l with
 | nil=>intro cs i _ hi;simp at hi
 | cons d l ih=>
   rintro cs i ⟨y,r,rfl,h1,h2⟩ hi
   cases i with
   | zero=>
     refine⟨x,r,?_,hc,h2⟩
     have:=Zc3 x y r [] (by rw[hc.len,h1.len])
     simpa using this
   | succ i=>
     refine⟨y,Qd r (i*7) x,?_,h1,ih h2 (by simpa using hi)⟩
     have aux:∀(x r:List AV) (o:Nat),Qd (y++r) (y.length+o) x=y++Qd r o x:=by
      intro x
      induction x with
      | nil=>intro r o;rfl
      | cons v x ihx=>
        intro r o
        simp only[Qd]
        rw[List.set_append_right _ _ (by omega),show y.length+o - y.length=o by omega,show y.length+o+1=y.length+(o+1)by omega]
        exact ihx (r.set o v) (o+1)
     rw[show (i+1)*7=y.length+i*7 by rw[h1.len];omega]
     exact aux x r (i*7)
def HpR (h:Heap) (v:AV) (l:List Ce):Prop:=∃cs,U2 h l cs∧RdS 7 h v l.length cs
theorem HpR.ext {v:AV} {l:List Ce} (a:HpR st.h v l) (x:Ext st st') (hw:st.Wf):HpR st'.h v l:=by
 obtain⟨cs,h1,h2⟩:=a
 exact⟨cs,h1.ext x hw,h2.ext x hw⟩
theorem HpR.Zb {v:AV} {l:List Ce} {k:Nat} (a:HpR st.h v l) (hw:st.Wf):HpR (Go.Ev.Zb k st.h) v l:=by
 obtain⟨cs,h1,h2⟩:=a
 exact⟨cs,h1.Zb hw,h2.Zb hw⟩
theorem HpR.sc {h:Heap} {v:AV} {l:List Ce} (a:HpR h v l):v.sc=true:=by
 obtain⟨cs,h1,h2⟩:=a
 exact h2.sc
theorem Xh {cs:List AV} {n:Nat} (h:cs.length=n):cs.take n=cs:=List.take_of_length_le (by omega)
theorem Z8 {a b:List AV} (h:b.length=a.length):Qd a 0 b=b:=Ze5 h
@[go_sem] theorem Zae5 (o:Ob):Yg o.v=o.A:=rfl
@[go_sem] theorem Zaio (o:Ob):o.v.nb=true:=rfl
theorem Ext.Zf {h:Heap} {n m:Nat} {o:Qb} (x:Ext st ⟨h,n⟩) (hm:n<m):Ext st ⟨(n,o)::h,m⟩:=by
 have a:=x.trans (Ext.new x.wf o)
 exact a.trans ⟨hm,⟨fun k p hp=>Nat.lt_of_lt_of_le (a.wf.lt k p hp) hm,a.wf.nd⟩,fun _ _=>rfl⟩
theorem Ext.upN {h:Heap} {n m:Nat} (x:Ext st ⟨h,n⟩) (hm:n≤m):Ext st ⟨h,m⟩:=
 x.trans ⟨hm,⟨fun k p hp=>Nat.lt_of_lt_of_le (x.wf.lt k p hp) hm,x.wf.nd⟩,fun _ _=>rfl⟩
theorem Ext.Zur {h:Heap} {n m:Nat} {o:Qb} (x:Ext st ⟨h,m⟩) (hf:Zh h n=none) (h0:st.nx≤n) (hm:n<m):Ext st ⟨(n,o)::h,m⟩:=by
 refine⟨x.nx,⟨fun k p hp=> ?_,?_⟩,fun k hk=> ?_⟩
 ·simp only[Zh]at hp
  split at hp
  ·rename_i e;subst e;exact hm
  ·exact x.wf.lt k p hp
 ·simp only[List.map_cons,List.nodup_cons]
  refine⟨fun Po=> ?_,x.wf.nd⟩
  obtain⟨⟨k,p⟩,hk,e⟩:=List.mem_map.1 Po
  simp only at e
  subst e
  rw[I8 x.wf.nd hk]at hf
  cases hf
 ·simp only[Zh]
  rw[if_neg (by omega)]
  exact x.Zd k hk
theorem Qm:∀{h:Heap} {n m:Nat} {o:Qb},Zh (Z7 h n o) m=if n=m then(Zh h n).map (fun _=>o)else Zh h m
 | [],n,m,o=>by simp[Z7,Zh]
 | (k,p)::h,n,m,o=>by
   simp only[Z7]
   by_cases e:k=n
   ·subst e
    simp only[if_true,Zh]
    by_cases e2:k=m
    ·subst e2;simp
    ·simp[e2]
   ·simp only[if_neg e,Zh]
    by_cases e2:k=m
    ·subst e2
     rw[if_pos rfl,if_pos rfl,if_neg (fun h=>e h.symm)]
    ·rw[if_neg e2,if_neg e2,Qm]
theorem Ext.Qw {h:Heap} {n m:Nat} {o:Qb} (x:Ext st ⟨h,m⟩) (h0:st.nx≤n):Ext st ⟨Z7 h n o,m⟩:=by
 refine⟨x.nx,⟨fun k p hp=> ?_,by show ((Z7 h n o).map _).Nodup;rw[Pp];exact x.wf.nd⟩,fun k hk=> ?_⟩
 ·simp only[Qm]at hp
  split at hp
  ·rename_i e
   subst e
   cases hg:Zh h n with
   | none=>rw[hg]at hp;cases hp
   | some q=>exact x.wf.lt n q hg
  ·exact x.wf.lt k p hp
 ·simp only[Qm]
  rw[if_neg (by omega)]
  exact x.Zd k hk
def A4:Qb→Nat→Nat→Option (List AV)
 | .cells _ _ cs,off,k | .buf _ _ cs,off,k | .ro cs,off,k | .Wz _ cs,off,k=>if off+k≤cs.length then some ((cs.drop off).take k)else none
 | _,_,_=>none
def Ze2:Qb→Nat→Option AV
 | .cells _ _ cs,off | .buf _ _ cs,off | .ro cs,off | .Wz _ cs,off=>cs[off]?
 | _,_=>none
theorem Cd (h:Heap) (n off k:Nat):Qg h n off k=(Zh h n).bind fun o=>A4 o off k:=by
 unfold Qg
 cases hg:Zh h n with
 | none=>rfl
 | some o=>cases o <;> rfl
theorem Zhb (h:Heap) (n off:Nat):Q5 h n off=(Zh h n).bind fun o=>Ze2 o off:=by
 unfold Q5
 cases hg:Zh h n with
 | none=>rfl
 | some o=>cases o <;> rfl
section
variable (ty es off k : Nat) (l : Bool) (cs : List AV)
theorem Zt4:A4 (.cells ty l cs) off k=if off+k≤cs.length then some ((cs.drop off).take k)else none:=rfl
theorem Zyy:A4 (.buf ty es cs) off k=if off+k≤cs.length then some ((cs.drop off).take k)else none:=rfl
theorem Zabf:A4 (.ro cs) off k=if off+k≤cs.length then some ((cs.drop off).take k)else none:=rfl
theorem Zwm:A4 (.Wz ty cs) off k=if off+k≤cs.length then some ((cs.drop off).take k)else none:=rfl
theorem Zrx:Ze2 (.cells ty l cs) off=cs[off]? :=rfl
theorem Zwl:Ze2 (.buf ty es cs) off=cs[off]? :=rfl
theorem Zyx:Ze2 (.ro cs) off=cs[off]? :=rfl
theorem Zt3:Ze2 (.Wz ty cs) off=cs[off]? :=rfl
end
theorem Zm1 {o:Qb} {off k i j:Nat} {cs:List AV} (h:A4 o off k=some cs) (hj:i+j≤k):A4 o (off+i) j=some ((cs.drop i).take j):=by
 unfold A4 at h⊢
 split at h
 all_goals first
  | (split at h
     ·rename_i hle
      cases h
      rw[if_pos (by omega),List.drop_take,List.drop_drop,List.take_take,Nat.min_eq_left (by omega)]
     ·cases h)
  | cases h
theorem Jg {o:Qb} {off k i:Nat} {cs:List AV} (h:A4 o off k=some cs) (hi:i<k):Ze2 o (off+i)=cs[i]? :=by
 unfold A4 at h
 unfold Ze2
 split at h
 all_goals first
  | (split at h
     ·cases h;simp[hi]
     ·cases h)
  | cases h
theorem RdS.form {es:Nat} {v:AV} {k:Nat} {cs:List AV} (a:RdS es st.h v k cs) (hw:st.Wf):(v= .Zc∧k=0∧cs=[])∨∃n off cp ob,v= .slice n off k cp∧Zc9 k cp∧n<st.nx∧Zh st.h n=some ob∧ob.ow=true∧A4 ob off (k*es)=some cs:=by
 obtain⟨h0,⟨h1,h2⟩ | ⟨n,off,cp,h1,h2,⟨o,h3,h3'⟩,h4⟩⟩:=a
 ·exact .inl ⟨h1,h2,List.length_eq_zero_iff.1 (by rw[h0,h2];simp)⟩
 ·refine .inr ⟨n,off,cp,o,h1,h2,hw.lt _ _ h3,h3,h3',?_⟩
  rw[Cd,h3]at h4
  exact h4
theorem RdO.form {v:AV} {l:List Ob} (a:RdO st.h v l) (hw:st.Wf):(v= .Zc∧l=[])∨∃n off cp ob,v= .slice n off l.length cp∧Zc9 l.length cp∧n<st.nx∧Zh st.h n=some ob∧ob.ow=true∧∀i o,l[i]? =some o→A4 ob (off+i*7) 7=some o.A:=by
 rcases RdS.form a hw with ⟨h1,h2,h3⟩ | ⟨n,off,cp,ob,h1,h2,h3,h4,h5,h6⟩
 ·exact .inl ⟨h1,List.length_eq_zero_iff.1 h2⟩
 ·refine .inr ⟨n,off,cp,ob,h1,h2,h3,h4,h5,fun i o ho=> ?_⟩
  have hi:i<l.length:=(List.getElem?_eq_some_iff.1 ho).1
  have:=Zm1 h6 (i:=i*7) (j:=7) (by omega)
  rwa[Zaa5 ho]at this
theorem HpR.form {v:AV} {l:List Ce} (a:HpR st.h v l) (hw:st.Wf):(v= .Zc∧l=[])∨∃n off cp ob,v= .slice n off l.length cp∧Zc9 l.length cp∧n<st.nx∧Zh st.h n=some ob∧ob.ow=true∧∀i c,l[i]? =some c→∃x,A4 ob (off+i*7) 7=some x∧CeR st.h c x:=by
 obtain⟨cs,hc,a⟩:=a
 rcases RdS.form a hw with ⟨h1,h2,h3⟩ | ⟨n,off,cp,ob,h1,h2,h3,h4,h5,h6⟩
 ·exact .inl ⟨h1,List.length_eq_zero_iff.1 h2⟩
 ·refine .inr ⟨n,off,cp,ob,h1,h2,h3,h4,h5,fun i o ho=> ?_⟩
  have hi:i<l.length:=(List.getElem?_eq_some_iff.1 ho).1
  exact⟨_,Zm1 h6 (i:=i*7) (j:=7) (by omega),hc.at ho⟩
attribute [go_sem] Zo Qm Cd Zhb Zt4 Zyy Zabf Zwm Zrx Zwl Zyx Zt3 Jy Zg Zak Zt Qn Jk Ob.A Ob.v
end Go.Ev

/- More functions of the library as entries: Compare, HasPrefix, HasSuffix, ToUpper of strings; FormatBool. -/
namespace Go.Ev
open Go Go.RowKit
variable {X : Cx} {D : Mc} {T : Tab} {st : St}
namespace B
def Vn:Entry:=fun args st=>match args with
 | [.str a,.str b]=>some (.int .i64 (Lib.compareBytes a b),st)
 | _=>none
def K1:Entry:=fun args st=>match args with
 | [.bool b]=>some (.str (if b=true then [116,114,117,101]else [102,97,108,115,101]),st)
 | _=>none
def Vo:Entry:=fun args st=>match args with
 | [.str s]=>if s.length≤140737488355328∧s.all (fun b=>decide (b.toNat<128))=true then some (.str (Lib.toUpperA s),st)else none
 | _=>none
end B
theorem Zlg {f:Nat} (hb:Zbs X.P (X.φ f)=true)
  (h:∀(a b:ByteArray) (w:World),Calls X.P (X.φ f) #[.string a,.string b] w fun e w'=>e= .returned (.int .i64 (Lib.compareBytes a.data.toList b.data.toList))∧w'=w):Vp D X f B.Vn:=by
 refine Mp hb fun args st v st' hF=> ?_
 unfold B.Vn at hF
 split at hF
 case h_2=>cases hF
 cases hF
 refine⟨rfl,fun N us hus=> ?_⟩
 obtain⟨u0,us0,rfl,h0,u1,us1,rfl,h1,rfl⟩:=hus
 cases h0
 cases h1
 refine⟨_,rfl,fun w=> ?_⟩
 refine(h ⟨_⟩ ⟨_⟩ w).mono fun e w' ⟨h1,h2⟩=>⟨by simpa using h1,?_⟩
 subst h2
 exact Below.refl _ _
theorem Zln (b:Bool):Lib.formatBool b=if b=true then [116,114,117,101]else [102,97,108,115,101]:=by cases b <;> decide
theorem Zfj {f:Nat} (hb:Zbs X.P (X.φ f)=true)
  (h:∀(b:Bool) (w:World),Calls X.P (X.φ f) #[.bool b] w fun e w'=>e= .returned (.string ⟨(Lib.formatBool b).toArray⟩)∧w'=w):Vp D X f B.K1:=by
 refine Mp hb fun args st v st' hF=> ?_
 unfold B.K1 at hF
 split at hF
 case h_2=>cases hF
 cases hF
 refine⟨rfl,fun N us hus=> ?_⟩
 obtain⟨u0,us0,rfl,h0,rfl⟩:=hus
 cases h0
 refine⟨_,rfl,fun w=> ?_⟩
 refine(h _ w).mono fun e w' ⟨h1,h2⟩=>⟨by rw[h1,Zln],?_⟩
 subst h2
 exact Below.refl _ _
theorem Zmg {f:Nat} (hb:Zbs X.P (X.φ f)=true)
  (h:∀(s:ByteArray) (w:World),s.size≤140737488355328→(∀(j:Nat) (b:UInt8),s.data.toList[j]? =some b→b.toNat<128)→Calls X.P (X.φ f) #[.string s] w fun e w'=>e= .returned (.string ⟨(Lib.toUpperA s.data.toList).toArray⟩)∧Below w.heap.size w w'):Vp D X f B.Vo:=by
 refine Mp hb fun args st v st' hF=> ?_
 unfold B.Vo at hF
 split at hF
 case h_2=>cases hF
 split at hF
 case isFalse=>cases hF
 rename_i hc
 cases hF
 refine⟨rfl,fun N us hus=> ?_⟩
 obtain⟨u0,us0,rfl,h0,rfl⟩:=hus
 cases h0
 refine⟨_,rfl,fun w=> ?_⟩
 refine(h ⟨_⟩ w (by simpa [ByteArray.size] using hc.1) (fun j b hj=> ?_)).mono fun e w' ⟨h1,h2⟩=>⟨by simpa using h1,h2⟩
 have:=List.all_eq_true.1 hc.2 b (List.mem_of_getElem? hj)
 simpa using this
end Go.Ev
