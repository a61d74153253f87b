/- Unbase85 told; parts of the reference's. -/
import Derived.Test.YthckfhllgpfidaaGreatDoorP09
import Derived.Test.YthckfhllgpfidaaGreatDoorP08
import Derived.Lib.Join
set_option linter.unusedSimpArgs false
set_option linter.unusedVariables false
set_option linter.unusedSectionVars false
namespace Go.Ev
open Go
variable {T : Tab} {st : St}
def Zdv (s:List UInt8):List UInt8×Nat×Int:=Po Ji Zil ([],[],false) s
theorem Zkw (H:B.Eb T) (hwf:st.Wf) {s:List UInt8} (hs:s.length<1000000000000):Qa T st (.fn 212 [] []) [.str s] (Rx (Zdv s)):=by
 refine Zs H.e H.f rfl ?_
 have hx:=Ext.new hwf (.cells 307 false [.Zk,.bool false])
 have hg:Zh ((st.nx,Z7.cells 307 false [.Zk,.bool false])::st.h) st.nx=some (.cells 307 false [.Zk,.bool false]):=by simp[Ze]
 have hr:=Zwc H.Ql (st0:=st) hx (p:=st.nx) (I:=Zry st st.nx (st.nx+6)) (Zaan H.Q5 H.Ql.J3) (x0:=([],[],false)) (Nat.lt_succ_self _) (Nat.le_refl _)
  (fun s1 x1 g1=>⟨by simp,.Zk,.Zk,hx.trans x1,⟨by omega,g1,Grow.nil _ _,by simp[AV.nms]⟩,⟨Nat.le_refl _,x1.get hx.wf hg,Grow.nil _ _,by simp[AV.nms]⟩,by omega,by simp[AV.nms],by simp[AV.nms],by simp[AV.nms],by simp,by simp⟩) rfl hs
 simp[B.X4,go_sem,NO.run]
 refine hr.mono ?_
 rintro _ s1 ⟨rfl,x1⟩
 simp[go_sem,Rx,Zdv,x1]
def Te:List UInt8→Nat→Option Nat
 | [],_=>none
 | c::r,i=>if K3 c=true then Te r (i+1)else if c=62 then some (i+1)else none
theorem Zm7 (o pt:List UInt8):∀(s:List UInt8) (i:Nat),Xn Ji (o,pt,true) s i=match Te s i with
  | none=>none
  | some j=>(Gx pt).map fun d=>((o++d,[],true),j)
 | [],i=>rfl
 | c::r,i=>by
   unfold Xn Te
   by_cases hb:K3 c=true
   ·rw[if_pos hb,if_pos hb];exact Zm7 o pt r (i+1)
   ·rw[if_neg hb,if_neg hb]
    unfold Ji
    simp only[if_true]
    by_cases hc:c=62
    ·rw[if_pos hc,if_pos hc]
     cases Gx pt <;> rfl
    ·rw[if_neg hc,if_neg hc]
def Zd2:Option Nat→Int
 | none=> -1
 | some j=>(j:Int)
theorem Zvf (H:B.My T) {s:List UInt8} (hs:s.length<1000000000000):∀(m i:Nat) (e:Env) (st1:St),i+m=s.length→Ext st st1→Zb e 0= .str s→Zb e 1= .int .i64 i→
  Res (run T (.loop B.L3) e st1) fun x e' s'=>Ext st s'∧x= .exit 0∧Zb e' 0= .str s∧∃j,Zb e' 1= .int .i64 ((j:Nat):Int)∧j≤s.length∧Te (s.drop i) i=(match s[j]? with | some c=>if c=62 then some (j+1)else none | none=>none):=by
 intro m
 induction m with
 | zero=>
   intro i e st1 hi hx g0 g1
   have hil:i=s.length:=by omega
   subst hil
   rw[Zn]
   simp[B.L3,go_sem,g0,g1,hx,Te]
   exact⟨s.length,rfl,by omega,by simp⟩
 | succ m ih=>
   intro i e st1 hi hx g0 g1
   have hil:i<s.length:=by omega
   have hil':(i:Int)<s.length:=by omega
   obtain⟨c,hc,hd⟩:=Z9 hil
   have ek:IntKind.i64.wrap ((i:Int)+1)=((i+1:Nat):Int):=Zf (by omega) (by omega)
   rw[hd,Te,Zn]
   simp[B.L3,go_sem,g0,g1,hil',hc]
   refine(Hy H.Qs hx.wf c).use fun s1 hs1=> ?_
   have hx1:=hx.trans hs1
   cases hr:K3 c with
   | false=>
     simp[go_sem,g0,g1,hx1]
     exact⟨i,rfl,by omega,by rw[hc]⟩
   | true=>
     simp[go_sem,g0,g1]
     exact ih (i+1) _ s1 (by omega) hx1 (by simp[go_sem,g0]) (by simp[go_sem,g1,ek])
theorem Zss (H:B.My T) (hwf:st.Wf) {s:List UInt8} {i:Nat} (hi:i≤s.length) (hs:s.length<1000000000000):Qa T st (.fn 202 [] []) [.str s,.int .i64 (i:Int)] (.int .i64 (Zd2 (Te (s.drop i) i))):=by
 refine Zs H.e H.f rfl ?_
 simp[B.Wq,go_sem]
 refine(Zvf H hs (s.length - i) i _ st (by omega) (.refl hwf) (by simp[go_sem]) (by simp[go_sem])).mono ?_
 rintro x e s1 ⟨x1,rfl,g0,j,g1,hj,he⟩
 rw[he]
 by_cases hjl:j<s.length
 ·obtain⟨c,hc,_⟩:=Z9 hjl
  have ek:IntKind.i64.wrap ((j:Int)+1)=((j+1:Nat):Int):=Zf (by omega) (by omega)
  have c62:((c.toNat:Int)=62)↔c=62:=by rw[←UInt8.toNat_inj];simp;omega
  have hj':(j:Int)<s.length:=by omega
  rw[hc]
  simp only
  by_cases h:c=62
  ·obtain⟨w,hw⟩:∃w,w=j+1:=⟨_,rfl⟩
   rw[if_pos h,←hw]
   rw[←hw]at ek
   clear hjl hj
   simp[go_sem,g0,g1,hj',hc,c62,h,ek,Zd2,x1]
  ·rw[if_neg h]
   clear hjl hj
   simp[go_sem,g0,g1,hj',hc,c62,h,Zd2,x1]
 ·have hjn:s[j]? =none:=List.getElem?_eq_none (by omega)
  rw[hjn]
  simp[go_sem,g0,g1,show¬(j:Int)<s.length by omega,hjl,Zd2,x1]
def Rf (pt:List UInt8):List UInt8:=pt++List.replicate (5 - pt.length) 117
theorem Zmq {pt:List UInt8} (h:pt.length≤5):(Rf pt).length=5:=by simp[Rf];omega
theorem Zvh {pt:List UInt8} {i:Nat} (h:i<5):(Rf pt)[i]? =some (pt.getD i 117):=by
 unfold Rf
 by_cases hi:i<pt.length
 ·rw[List.getElem?_append_left hi,List.getElem?_eq_getElem hi];simp[hi]
 ·rw[List.getElem?_append_right (by omega),List.getElem?_replicate,if_pos (by omega)];simp[hi]
theorem Zws {pt:List UInt8} (hl:pt.length≤5) (hc:∀c∈pt,33≤c.toNat) {n:Nat} {cp:Cap} (hrd:Z1 st.h n 0 pt.length=some (u8s pt)):∀(j i:Nat) (e:Env),i+j=5→Zb e 0= .slice n 0 pt.length cp→Zb e 3= .int .i64 ((v85 ((Rf pt).take i) 0:Nat):Int)→Zb e 4= .int .i64 (i:Int)→
  Res (run T (.loop B.U6) e st) fun x e' s'=>x= .exit 0∧s'=st∧Zb e' 3= .int .i64 ((v85 (Rf pt) 0:Nat):Int):=by
 intro j
 induction j with
 | zero=>
   intro i e hi g0 g3 g4
   have hil:i=5:=by omega
   subst hil
   rw[List.take_of_length_le (by rw[Zmq hl];omega)]at g3
   rw[Zn]
   simp[B.U6,go_sem,g0,g3,g4]
 | succ j ih=>
   intro i e hi g0 g3 g4
   have h5:i<5:=by omega
   have h5':(i:Int)<5:=by omega
   have hcc:=Zvh (pt:=pt) h5
   have hsn:=Zr9 ((Rf pt).take i) 0 (pt.getD i 117)
   rw[←I2 hcc]at hsn
   have hb:=Zin (s:=(Rf pt).take i) (by simp;omega)
   have ih2:=fun e'=>ih (i+1) e' (by omega)
   rw[hsn]at ih2
   have ek:IntKind.i64.wrap ((i:Int)+1)=((i+1:Nat):Int):=Zf (by omega) (by omega)
   rw[Zn]
   by_cases hil:i<pt.length
   ·obtain⟨c,hci,_⟩:=Z9 hil
    have c33:=hc c (List.mem_of_getElem? hci)
    have cl:=c.toNat_lt
    have hr:Zo st.h n i=some (.int .u8 (c.toNat:Int)):=by
     have:=G9 hrd (i:=i) (by omega)
     rw[Nat.zero_add]at this
     rw[this];simp[u8s,hci]
    have hgd:pt.getD i 117=c:=by simp[List.getD_eq_getElem?_getD,hci]
    rw[hgd]at ih2
    generalize v85 ((Rf pt).take i) 0=N at*
    obtain⟨w,hw⟩:∃w:Nat,w=d85 N c:=⟨_,rfl⟩
    rw[←hw]at ih2
    unfold d85 at hw
    have w1:IntKind.i64.wrap ((N:Int)*85)=(N:Int)*85:=Zf (by omega) (by omega)
    have w2:IntKind.i64.wrap (c.toNat:Int)=(c.toNat:Int):=Zf (by omega) (by omega)
    have w3:IntKind.i64.wrap ((N:Int)*85+(c.toNat:Int))=(N:Int)*85+(c.toNat:Int):=Zf (by omega) (by omega)
    have w4:IntKind.i64.wrap ((N:Int)*85+(c.toNat:Int) - 33)=(w:Int):=by rw[Zf (by omega) (by omega)];omega
    have h1:(i:Int)<pt.length:=by omega
    clear hsn hb hcc hw ih
    simp[B.U6,go_sem,RO.run,g0,g3,g4,h5,h5',h1,hil,hr,w1,w2,w3,w4]
    exact ih2 _ (by simp[go_sem,g0]) (by simp[go_sem,w4]) (by simp[go_sem,ek])
   ·have hgd:pt.getD i 117=117:=by simp[List.getD_eq_getElem?_getD,List.getElem?_eq_none (show pt.length≤i by omega)]
    rw[hgd]at ih2
    generalize v85 ((Rf pt).take i) 0=N at*
    obtain⟨w,hw⟩:∃w:Nat,w=d85 N 117:=⟨_,rfl⟩
    rw[←hw]at ih2
    have hw2:w=N*85+84:=by rw[hw];rfl
    have w1:IntKind.i64.wrap ((N:Int)*85)=(N:Int)*85:=Zf (by omega) (by omega)
    have w3:IntKind.i64.wrap ((N:Int)*85+117)=(N:Int)*85+117:=Zf (by omega) (by omega)
    have w4:IntKind.i64.wrap ((N:Int)*85+117 - 33)=(w:Int):=by rw[Zf (by omega) (by omega)];omega
    have h1:¬(i:Int)<pt.length:=by omega
    clear hsn hb hcc hw hw2 ih
    simp[B.U6,go_sem,RO.run,g0,g3,g4,h5,h5',h1,hil,w1,w3,w4]
    exact ih2 _ (by simp[go_sem,g0]) (by simp[go_sem,w4]) (by simp[go_sem,ek])
theorem Zkx (H:B.Hi T) (hwf:st.Wf) {pt:List UInt8} (hl:pt.length≤5) (hc:∀c∈pt,33≤c.toNat) {n:Nat} {cp:Cap} (hrd:Z1 st.h n 0 pt.length=some (u8s pt)):Qa T st (.fn 203 [] []) [.slice n 0 pt.length cp] (.int .i64 ((v85 (Rf pt) 0:Nat):Int)):=by
 refine Zs H.e H.f rfl ?_
 simp[B.V9,go_sem]
 refine(Zws hl hc hrd 5 0 _ (by omega) (by simp[go_sem];rfl) (by simp[go_sem,Zff]) (by simp[go_sem])).mono ?_
 rintro x e s1 ⟨rfl,rfl,g3⟩
 simp[go_sem,g3,Ext.refl hwf]
theorem Zp3 (H:B.Hh T) (hwf:st.Wf) {n:Nat} (hn:n<17748212500):Jg (call T (.fn 204 [] []) [.int .i64 (n:Int)] st) fun v s'=>v= .slice st.nx 0 4 (.known 4)∧s'=⟨(st.nx,.cells 5 false (u8s (Wn n)))::st.h,st.nx+1⟩:=by
 refine Q3 H.e H.f rfl ?_
 have a1:(n:Int).tdiv 16777216=((n / 16777216:Nat):Int):=by rw[Int.tdiv_eq_ediv_of_nonneg (by omega)];omega
 have a2:(n:Int).tdiv 65536=((n / 65536:Nat):Int):=by rw[Int.tdiv_eq_ediv_of_nonneg (by omega)];omega
 have a3:(n:Int).tdiv 256=((n / 256:Nat):Int):=by rw[Int.tdiv_eq_ediv_of_nonneg (by omega)];omega
 have b2:((n / 65536:Nat):Int).tmod 256=((n / 65536 % 256:Nat):Int):=by rw[Int.tmod_eq_emod_of_nonneg (by omega)];omega
 have b3:((n / 256:Nat):Int).tmod 256=((n / 256 % 256:Nat):Int):=by rw[Int.tmod_eq_emod_of_nonneg (by omega)];omega
 have b4:(n:Int).tmod 256=((n % 256:Nat):Int):=by rw[Int.tmod_eq_emod_of_nonneg (by omega)];omega
 have w1:IntKind.i64.wrap ((n / 16777216:Nat):Int)=((n / 16777216:Nat):Int):=Zf (by omega) (by omega)
 have w2:IntKind.i64.wrap ((n / 65536:Nat):Int)=((n / 65536:Nat):Int):=Zf (by omega) (by omega)
 have w3:IntKind.i64.wrap ((n / 256:Nat):Int)=((n / 256:Nat):Int):=Zf (by omega) (by omega)
 have q1:=Zhg (n / 16777216)
 have hm:∀m:Nat,UInt8.ofNat (m % 256)=UInt8.ofNat m:=fun m=>by rw[←UInt8.toNat_inj,UInt8.toNat_ofNat',UInt8.toNat_ofNat'];omega
 have q2:=Zhg (n / 65536 % 256)
 have q3:=Zhg (n / 256 % 256)
 have q4:=Zhg (n % 256)
 rw[hm]at q2 q3 q4
 have hd:∀o:Z7,o.lc=false→Zp st.nx ((st.nx,o)::st.h)=(st.nx,o)::st.h:=fun o ho=>by
  have:Kk st.nx ((st.nx,o)::st.h)=[]:=by
   cases o with
   | cells ty l cs=>
     cases l with
     | true=>cases ho
     | false=>simp only[Kk];exact Uo fun n o ho=>hwf.lt n o ho
   | _=>simp only[Kk];exact Uo fun n o ho=>hwf.lt n o ho
  rw[Xj,this,Ed]
 simp only[Wn,u8s,List.map_cons,List.map_nil]
 generalize UInt8.ofNat (n / 16777216)=A1 at*
 generalize UInt8.ofNat (n / 65536)=A2 at*
 generalize UInt8.ofNat (n / 256)=A3 at*
 generalize UInt8.ofNat n=A4 at*
 generalize n / 65536 % 256=m2 at*
 generalize n / 256 % 256=m3 at*
 generalize n % 256=m4 at*
 generalize n / 16777216=d1 at*
 generalize n / 65536=d2 at*
 generalize n / 256=d3 at*
 simp[B.V8,go_sem,NO.run,a1,a2,a3,b2,b3,b4,w1,w2,w3,q1,q2,q3,q4,AV.nb]
 exact hd _ rfl
theorem Zd3 (H:B.Rg T) (hwf:st.Wf) {st0:St} {v:AV} {o:List UInt8} (g:Grow st0 st v o) {i:Nat}:Qa T st (.fn 205 [] []) [v,.int .i64 (i:Int)] (Rx (if 65536<o.length then([],0,3)else(o,i,0))):=by
 refine Zs H.e H.f rfl ?_
 have hu:=Kb o
 rcases g.form with ⟨e1,e2⟩ | ⟨n,e1,hrd,_⟩
 ·subst e1;subst e2
  simp[B.J0,go_sem,RO.run,Rx,Ext.refl hwf]
 ·subst e1
  by_cases h:65536<o.length
  ·simp[B.J0,go_sem,RO.run,Rx,h,show (65536:Int)<o.length by omega,Ext.refl hwf]
  ·simp[B.J0,go_sem,RO.run,Rx,h,show¬(65536:Int)<o.length by omega,hrd,hu,Ext.refl hwf]
end Go.Ev

/- The reference's Unbase85 told. -/
namespace Go.Ev
open Go
variable {T : Tab} {st : St}
def Zcf:Option (TX×Nat)→List UInt8×Nat×Int
 | none=>([],0,5)
 | some (x,n)=>if 65536<x.1.length then([],0,3)else(x.1,n,0)
theorem Grow.rdl {st0 s:St} {v:AV} {l:List UInt8} (a:Grow st0 s v l) (h:l≠[]):∃n,v= .slice n 0 l.length .full∧Z1 s.h n 0 l.length=some (u8s l):=by
 rcases a.form with ⟨_,e⟩ | ⟨n,e,h2,_⟩
 ·exact absurd e h
 ·exact⟨n,e,h2⟩
theorem Zwe (H:B.Wb T) {s:List UInt8} (hs:s.length≤65536) {st0:St}:∀(m i:Nat) (o pt:List UInt8) (vo vp:AV) (e:Env) (st1:St),i+m=s.length→o.length≤4*i→pt.length≤4→(∀c∈pt,33≤c.toNat)→Ext st0 st1→Grow st0 st1 vo o→Grow st0 st1 vp pt→(∀n∈vo.nms,n∉vp.nms)→Zb e 0= .str s→Zb e 5=vo→Zb e 6=vp→Zb e 7= .int .i64 (i:Int)→
  Res (run T (.loop B.Yn) e st1) fun x e' s'=>Ext st0 s'∧((x= .exit 0∧Xn Ji (o,pt,false) (s.drop i) i=none)∨(x= .ret∧Zb e' 2= .str (Zcf (Xn Ji (o,pt,false) (s.drop i) i)).1∧Zb e' 3= .int .i64 ((Zcf (Xn Ji (o,pt,false) (s.drop i) i)).2.1:Nat)∧Zb e' 4= .int .i64 (Zcf (Xn Ji (o,pt,false) (s.drop i) i)).2.2)):=by
 intro m
 induction m with
 | zero=>
   intro i o pt vo vp e st1 hi ho hp hpc hx go gp hd g0 g5 g6 g7
   have hil:i=s.length:=by omega
   subst hil
   rw[Zn]
   simp[B.Yn,go_sem,g0,g5,g6,g7,hx,Xn]
 | succ m ih=>
   intro i o pt vo vp e st1 hi ho hp hpc hx go gp hd g0 g5 g6 g7
   have hil:i<s.length:=by omega
   obtain⟨c,hc,hdr⟩:=Z9 hil
   obtain⟨R,hR⟩:∃R,R=Xn Ji (o,pt,false) (s.drop i) i:=⟨_,rfl⟩
   rw[←hR]
   rw[hdr,Xn]at hR
   have h1:(i:Int)<s.length:=by omega
   have ek:IntKind.i64.wrap ((i:Int)+1)=((i+1:Nat):Int):=Zf (by omega) (by omega)
   have c126:((c.toNat:Int)=126)↔c=126:=by rw[←UInt8.toNat_inj];simp;omega
   have c122:((c.toNat:Int)=122)↔c=122:=by rw[←UInt8.toNat_inj];simp;omega
   have ih2:=fun o pt vo vp e' st'=>ih (i+1) o pt vo vp e' st' (by omega)
   clear ih
   rw[Zn]
   simp[B.Yn,go_sem,g0,g5,g6,g7,h1,hc]
   refine(Hy H.Qs hx.wf c).use fun s1 x1'=> ?_
   have x1:=hx.trans x1'
   have go1:=go.ext x1' hx.wf
   have gp1:=gp.ext x1' hx.wf
   cases hbl:K3 c with
   | true=>
     rw[if_pos hbl]at hR
     subst hR
     simp[go_sem,g0,g5,g6,g7]
     exact ih2 o pt vo vp _ s1 (by omega) hp hpc x1 go1 gp1 hd (by simp[go_sem,g0]) (by simp[go_sem,g5]) (by simp[go_sem,g6]) (by simp[go_sem,g7,ek])
   | false=>
     rw[if_neg (by simp[hbl])]at hR
     by_cases h126:c=126
     ·have hst:Ji (o,pt,false) c=some (false,(o,pt,true)):=by simp[Ji,h126]
      rw[hst]at hR
      simp only at hR
      rw[Zm7]at hR
      have hen:=fun(st':St) (hw:st'.Wf)=>Zss (st:=st') H.Wq hw (s:=s) (i:=i+1) (by omega) (by omega)
      obtain⟨i1,hi1⟩:∃i1,i1=i+1:=⟨_,rfl⟩
      rw[←hi1]at hR hen ek
      have hjb:∀j,Te (s.drop i1) i1=some j→j≤100000:=by
       have:∀(t:List UInt8) (a j:Nat),Te t a=some j→j≤a+t.length:=by
        intro t
        induction t with
        | nil=>intro a j h;cases h
        | cons d r ihh=>
          intro a j h
          unfold Te at h
          split at h
          ·have:=ihh _ _ h;simp;omega
          ·split at h
           ·injection h with h;subst h;simp only[List.length_cons];omega
           ·cases h
       intro j h
       have:=this _ _ _ h
       rw[List.length_drop]at this
       omega
      generalize Te (s.drop i1) i1=E at*
      have n126:¬(126:Int)=0:=by decide
      simp[go_sem,g0,g5,g6,g7,c126,h126,ek]
      refine(hen _ x1.wf).use fun s2 x2'=> ?_
      have x2:=x1.trans x2'
      have go2:=go1.ext x2' x1.wf
      have gp2:=gp1.ext x2' x1.wf
      cases hE:E with
      | none=>
        rw[hE]at hR
        simp only at hR
        subst hR
        simp[go_sem,Zd2,Zcf,x2]
      | some j=>
        rw[hE]at hR
        simp only at hR
        have hj:=hjb j hE
        have hjn:¬(j:Int)<0:=by omega
        by_cases hp0:pt.length=0
        ·have hpt:pt=[]:=List.length_eq_zero_iff.1 hp0
         subst hpt
         have hcf:Gx []=some []:=rfl
         rw[hcf]at hR
         simp at hR
         subst hR
         have hfin:=fun(st':St) (hw:st'.Wf) (g:Grow st0 st' vo o)=>Zd3 H.J0 hw g (i:=j)
         have vp0:vp= .Zk∨∃n,vp= .slice n 0 0 .full:=by
          rcases gp2.form with ⟨e,_⟩ | ⟨n,e,_⟩
          ·exact .inl e
          ·exact .inr ⟨n,e⟩
         clear gp gp1 gp2 hd g6
         have hA:Zcf (some ((o,[],true),j))=if 65536<o.length then([],0,3)else(o,j,0):=rfl
         rw[hA]
         generalize (if 65536<o.length then(([],0,3):List UInt8×Nat×Int)else(o,j,0))=Z at*
         rcases vp0 with e | ⟨n,e⟩
         ·subst e
          simp[go_sem,Zd2,g5,hjn]
          refine(hfin _ x2.wf go2).use fun s3 x3=> ?_
          simp[go_sem,Rx,x2.trans x3]
         ·subst e
          simp[go_sem,Zd2,g5,hjn]
          refine(hfin _ x2.wf go2).use fun s3 x3=> ?_
          simp[go_sem,Rx,x2.trans x3]
        ·obtain⟨n,e,hrd⟩:=gp2.rdl (by intro h;rw[h]at hp0;simp at hp0)
         by_cases hp1:pt.length=1
         ·have hcf:Gx pt=none:=by simp[Gx,hp1]
          rw[hcf]at hR
          simp at hR
          subst hR
          subst e
          simp[go_sem,Zd2,g5,g6,hjn,hp1,Zcf,x2]
         ·have hcf:Gx pt=if v85 (Rf pt) 0<4294967296 then some ((Wn (v85 (Rf pt) 0)).take (pt.length - 1))else none:=by
           unfold Gx
           rw[if_neg hp1,if_neg hp0]
           rfl
          have hbnd:=Zin (s:=Rf pt) (by rw[Zmq (by omega)];omega)
          have hun:=fun(st':St) (hw:st'.Wf) hr=>Zkx (st:=st') H.V9 hw (pt:=pt) (by omega) hpc (n:=n) (cp:= .full) hr
          have hrdx:∀(s3:St),Ext s2 s3→Z1 s3.h n 0 pt.length=some (u8s pt):=by
           intro s3 x3
           rw[←hrd]
           obtain⟨ob,hob⟩:=Rc hrd
           unfold Z1
           rw[x3.get x2.wf hob,hob]
          subst e
          clear gp gp1 gp2 hd
          obtain⟨k,hk⟩:∃k,k=pt.length:=⟨_,rfl⟩
          rw[←hk]at hun g6 hp1 hp0 hp hcf hrdx⊢
          have k1:¬(k:Int)=1:=by omega
          have k2:(1:Int)<k:=by omega
          have k2':1<k:=by omega
          have hkw:IntKind.i64.wrap ((k:Int) - 1)=((k - 1:Nat):Int):=by rw[Zf (by omega) (by omega)];omega
          rw[hcf]at hR
          have hol:((Wn (v85 (Rf pt) 0)).take (k - 1)).length=k - 1:=by simp[Wn];omega
          have hrd4:∀(nn:Nat) (h:Heap),Z1 ((nn,Z7.cells 5 false (u8s (Wn (v85 (Rf pt) 0))))::h) nn 0 (k - 1)=some (u8s ((Wn (v85 (Rf pt) 0)).take (k - 1))):=by
           intro nn h
           rw[Zus (h:=(nn,Z7.cells 5 false (u8s (Wn (v85 (Rf pt) 0))))::h) (n:=nn) (ty:=5) (k:=k - 1) (o:=0) (l:=false) (cs:=u8s (Wn (v85 (Rf pt) 0))) (by simp[Ze]) (by simp[u8s,Wn];omega)]
           simp[u8s,List.map_take]
          generalize v85 (Rf pt) 0=U at*
          simp[go_sem,Zd2,g5,g6,hjn,hp1,k1,k2,k2']
          refine(hun _ x2.wf (hrdx _ (.refl x2.wf))).use fun s3 x3'=> ?_
          have x3:=x2.trans x3'
          have go3:=go2.ext x3' x2.wf
          by_cases hU:U<4294967296
          ·have hU':¬(4294967296:Int)≤(U:Int):=by omega
           have hU2:¬4294967296≤U:=by omega
           rw[if_pos hU]at hR
           simp only[Option.map_some]at hR
           subst hR
           simp[go_sem,g5,g6,hU',hU2,k2,k2']
           refine(hun _ x3.wf (hrdx _ x3')).use fun s4 x4'=> ?_
           have x4:=x3.trans x4'
           have go4:=go3.ext x4' x3.wf
           simp[go_sem]
           refine(Zp3 H.V8 x4.wf hbnd).mono ?_
           rintro _ _ ⟨rfl,rfl⟩
           have x5':=Ext.new x4.wf (.cells 5 false (u8s (Wn U)))
           have x5:=x4.trans x5'
           have go5:=go4.ext x5' x4.wf
           have hj0:(0:Int)≤((k - 1:Nat):Int):=by omega
           have hj4:((k - 1:Nat):Int)≤((4:Nat):Int):=by omega
           have hsa:Pe 1 s4.nx 0 4 (.known 4) none (some (.int .i64 ((k - 1:Nat):Int))) none=some (.slice s4.nx 0 (k - 1) (.known 4)):=by rw[Sx (len:=4) hj0 hj4 (by decide)];simp
           have hrr:Rd ((s4.nx,Z7.cells 5 false (u8s (Wn U)))::s4.h) (.slice s4.nx 0 (k - 1) (.known 4)) 1 ((Wn U).take (k - 1)).length (u8s ((Wn U).take (k - 1))):= .inr ⟨s4.nx,0,_,by rw[hol],by rw[hol,Nat.mul_one];exact hrd4 _ _⟩
           have happ:=go5.app x5.nx x5.wf hrr (by rw[hol];omega)
           generalize (Wn U).take (k - 1)=D at*
           generalize k - 1=k9 at*
           simp[go_sem,g5,g6,hkw,hsa]
           refine happ.mono ?_
           rintro v6 s6 ⟨go6,f6⟩
           have x6:=x5.Yo f6 go5.ge
           simp[go_sem]
           have hA:Zcf (some ((o++D,[],true),j))=if 65536<(o++D).length then([],0,3)else(o++D,j,0):=rfl
           rw[hA]
           have hfin:=Zd3 H.J0 x6.wf go6 (i:=j)
           generalize (if 65536<(o++D).length then(([],0,3):List UInt8×Nat×Int)else(o++D,j,0))=Z at*
           refine hfin.use fun s7 x7=> ?_
           simp[go_sem,Rx,x6.trans x7]
          ·have hU':(4294967296:Int)≤(U:Int):=by omega
           have hU2:4294967296≤U:=by omega
           rw[if_neg hU]at hR
           simp at hR
           subst hR
           simp[go_sem,hU',hU2,Zcf,x3]
     ·by_cases hz:c=122∧pt.length=0
      ·obtain⟨hz1,hz2⟩:=hz
       have hpt:pt=[]:=List.length_eq_zero_iff.1 hz2
       subst hpt
       have hst:Ji (o,[],false) c=some (false,(o++[0,0,0,0],[],false)):=by simp[Ji,hz1]
       rw[hst]at hR
       simp only at hR
       subst hR
       have xa:=Ext.new x1.wf (.cells 5 false (u8s [0,0,0,0]))
       have happ:=(go1.ext xa x1.wf).app2 (Nat.le_trans x1.nx xa.nx) xa.wf (m:=[0,0,0,0]) (x:= .slice s1.nx 0 4 (.known 4)) (.inr ⟨s1.nx,0,_,rfl,Mw (ty:=5) (l:=false) (by simp[Ze]) rfl⟩) (by simp;omega)
       simp only[u8s,List.map_cons,List.map_nil]at happ xa
       have vp0:vp= .Zk∨∃n,vp= .slice n 0 0 .full:=by
        rcases gp1.form with ⟨e,_⟩ | ⟨n,e,_⟩
        ·exact .inl e
        ·exact .inr ⟨n,e⟩
       have fin:∀v2 s2 e2,(Grow st0 s2 v2 (o++[0,0,0,0])∧Frm vo.nms ⟨(s1.nx,.cells 5 false [.int .u8 ((0:UInt8).toNat:Int),.int .u8 ((0:UInt8).toNat:Int),.int .u8 ((0:UInt8).toNat:Int),.int .u8 ((0:UInt8).toNat:Int)])::s1.h,s1.nx+1⟩ s2∧Xg vo.nms ⟨(s1.nx,.cells 5 false [.int .u8 ((0:UInt8).toNat:Int),.int .u8 ((0:UInt8).toNat:Int),.int .u8 ((0:UInt8).toNat:Int),.int .u8 ((0:UInt8).toNat:Int)])::s1.h,s1.nx+1⟩ v2)→
         Zb e2 0= .str s→Zb e2 5=v2→Zb e2 6=vp→Zb e2 7= .int .i64 ((i+1:Nat):Int)→Res (run T (.loop B.Yn) e2 s2) fun x e' s'=>Ext st0 s'∧((x= .exit 0∧Xn Ji (o++[0,0,0,0],[],false) (s.drop (i+1)) (i+1)=none)∨(x= .ret∧Zb e' 2= .str (Zcf (Xn Ji (o++[0,0,0,0],[],false) (s.drop (i+1)) (i+1))).1∧Zb e' 3= .int .i64 ((Zcf (Xn Ji (o++[0,0,0,0],[],false) (s.drop (i+1)) (i+1))).2.1:Nat)∧Zb e' 4= .int .i64 (Zcf (Xn Ji (o++[0,0,0,0],[],false) (s.drop (i+1)) (i+1))).2.2)):=by
        rintro v2 s2 e2 ⟨o2,f2,m2⟩ k0 k5 k6 k7
        have xb:=x1.trans xa
        refine ih2 _ _ v2 vp e2 s2 (by simp;omega) (by simp) (by simp) (xb.Yo f2 go1.ge) o2 ((gp1.ext xa x1.wf).Yo f2 xa.wf (fun n hn h=>hd n h hn)) (fun n hn hn2=> ?_) k0 k5 k6 k7
        rcases m2 n hn with h | h
        ·exact hd n h hn2
        ·have:=gp1.lt x1.wf n hn2;simp at h;omega
       rcases vp0 with e | ⟨n,e⟩
       ·subst e
        simp[go_sem,g0,g5,g6,g7,c126,c122,h126,hz1,NO.run,Y3]
        refine happ.mono ?_
        intro v2 s2 h
        simp[go_sem,g0,g6,g7]
        exact fin v2 s2 _ h (by simp[go_sem,g0]) (by simp[go_sem]) (by simp[go_sem,g6]) (by simp[go_sem,g7,ek])
       ·subst e
        simp[go_sem,g0,g5,g6,g7,c126,c122,h126,hz1,NO.run,Y3]
        refine happ.mono ?_
        intro v2 s2 h
        simp[go_sem,g0,g6,g7]
        exact fin v2 s2 _ h (by simp[go_sem,g0]) (by simp[go_sem]) (by simp[go_sem,g6]) (by simp[go_sem,g7,ek])
      ·by_cases hz1:c=122
       ·have hp0:pt.length≠0:=fun h=>hz ⟨hz1,h⟩
        have hst:Ji (o,pt,false) c=none:=by simp only[Ji];rw[if_neg (by simp),if_neg h126,if_pos hz1,if_neg hp0]
        rw[hst]at hR
        simp only at hR
        subst hR
        obtain⟨n,e,_⟩:=gp1.rdl (by intro h;rw[h]at hp0;simp at hp0)
        subst e
        have hp0':¬(pt.length:Int)=0:=by omega
        have hpne:¬pt=[]:=by intro h;rw[h]at hp0;simp at hp0
        simp[go_sem,g0,g5,g6,g7,c126,c122,h126,hz1,hp0,hp0',hpne,Zcf,x1]
       ·by_cases hbd:c.toNat<33∨117<c.toNat
        ·have hst:Ji (o,pt,false) c=none:=by simp only[Ji];rw[if_neg (by simp),if_neg h126,if_neg hz1,if_pos hbd]
         rw[hst]at hR
         simp only at hR
         subst hR
         by_cases h33:c.toNat<33
         ·simp[go_sem,g0,g5,g6,g7,c126,c122,h126,hz1,h33,show (c.toNat:Int)<33 by omega,Zcf,x1]
         ·simp[go_sem,g0,g5,g6,g7,c126,c122,h126,hz1,h33,show¬(c.toNat:Int)<33 by omega,show (117:Int)<c.toNat by omega,show 117<c.toNat by omega,Zcf,x1]
        ·have h33:¬c.toNat<33:=fun h=>hbd (.inl h)
         have h117:¬117<c.toNat:=fun h=>hbd (.inr h)
         have hst:Ji (o,pt,false) c=Zpm o (pt++[c]):=by simp only[Ji];rw[if_neg (by simp),if_neg h126,if_neg hz1,if_neg hbd]
         rw[hst]at hR
         have hpush:=gp1.Zx6 x1.nx x1.wf (c:=c) (by omega)
         have hPl:(pt++[c]).length=pt.length+1:=by simp
         have hPc:∀d∈pt++[c],33≤d.toNat:=by
          intro d hd
          rcases List.mem_append.1 hd with h | h
          ·exact hpc d h
          ·simp at h;subst h;omega
         simp only[Zpm]at hR
         generalize pt++[c]=P at*
         simp[go_sem,g0,g5,g6,g7,c126,c122,h126,hz1,h33,h117,show¬(c.toNat:Int)<33 by omega,show¬(117:Int)<c.toNat by omega,NO.run,Y3]
         refine hpush.mono ?_
         rintro v2 s2 ⟨gP,f2,m2⟩
         have x2:=x1.Yo f2 gp1.ge
         have go2:=go1.Yo f2 x1.wf hd
         have hd2:∀n∈vo.nms,n∉v2.nms:=fun n hn hn2=>by
          rcases m2 n hn2 with h | h
          ·exact hd n hn h
          ·have:=go1.lt x1.wf n hn;omega
         obtain⟨n,e,hrd⟩:=gP.rdl (by intro h;rw[h]at hPl;simp at hPl)
         by_cases h5:P.length=5
         ·rw[if_pos h5]at hR
          have hf5:Rf P=P:=by simp[Rf,h5]
          have hun:=fun(st':St) (hw:st'.Wf) hr=>Zkx (st:=st') H.V9 hw (pt:=P) (by omega) hPc (n:=n) (cp:= .full) hr
          rw[hf5]at hun
          have hbnd:=Zin (s:=P) (by omega)
          have hrdx:∀(s3:St),Ext s2 s3→Z1 s3.h n 0 P.length=some (u8s P):=by
           intro s3 x3
           rw[←hrd]
           obtain⟨ob,hob⟩:=Rc hrd
           unfold Z1
           rw[x3.get x2.wf hob,hob]
          subst e
          have h5':¬(P.length:Int)<5:=by omega
          have h5n:¬P.length<5:=by omega
          have hr0:=hrdx _ (.refl x2.wf)
          generalize v85 P 0=U at*
          simp[go_sem,g0,g5,g6,g7,h5',h5n]
          refine(hun _ x2.wf hr0).use fun s3 x3'=> ?_
          have x3:=x2.trans x3'
          have go3:=go2.ext x3' x2.wf
          by_cases hU:U<4294967296
          ·have hU':¬(4294967296:Int)≤(U:Int):=by omega
           have hU2:¬4294967296≤U:=by omega
           rw[if_pos hU]at hR
           simp only at hR
           subst hR
           simp[go_sem,g0,g5,g7,hU',hU2]
           refine(hun _ x3.wf (hrdx _ x3')).use fun s4 x4'=> ?_
           have x4:=x3.trans x4'
           have go4:=go3.ext x4' x3.wf
           simp[go_sem]
           refine(Zp3 H.V8 x4.wf hbnd).mono ?_
           rintro _ _ ⟨rfl,rfl⟩
           have x5':=Ext.new x4.wf (.cells 5 false (u8s (Wn U)))
           have x5:=x4.trans x5'
           have go5:=go4.ext x5' x4.wf
           have happ:=go5.app x5.nx x5.wf (m:=Wn U) (x:= .slice s4.nx 0 4 (.known 4)) (.inr ⟨s4.nx,0,_,rfl,Mw (ty:=5) (l:=false) (by simp[Ze]) rfl⟩) (by rw[Ze1];omega)
           have ho4:(o++Wn U).length=o.length+4:=by rw[List.length_append,Ze1]
           generalize o++Wn U=O2 at*
           simp[go_sem]
           refine happ.mono ?_
           rintro v6 s6 ⟨go6,f6⟩
           have x6:=x5.Yo f6 go5.ge
           simp[go_sem,g0,g7]
           exact ih2 O2 [] v6 .Zk _ s6 (by omega) (by simp) (by simp) x6 go6 (Grow.nil _ _) (by simp[AV.nms]) (by simp[go_sem,g0]) (by simp[go_sem]) (by simp[go_sem]) (by simp[go_sem,g7,ek])
          ·have hU':(4294967296:Int)≤(U:Int):=by omega
           have hU2:4294967296≤U:=by omega
           rw[if_neg hU]at hR
           subst hR
           simp[go_sem,hU',hU2,Zcf,x3]
         ·rw[if_neg h5]at hR
          simp only at hR
          subst hR
          have h5':(P.length:Int)<5:=by omega
          have h5n:P.length<5:=by omega
          subst e
          simp[go_sem,g0,g5,g6,g7,h5',h5n]
          exact ih2 o P vo _ _ s2 (by omega) (by omega) hPc x2 go2 gP hd2 (by simp[go_sem,g0]) (by simp[go_sem,g5]) (by simp[go_sem]) (by simp[go_sem,g7,ek])
theorem Ze5 (H:B.Wb T) (hwf:st.Wf) {s:List UInt8} (hs:s.length<1000000000000):Qa T st (.fn 188 [] []) [.str s] (Rx (Zdv s)):=by
 refine Zs H.e H.f rfl ?_
 unfold Zdv Po
 by_cases h:65536<s.length
 ·have h':(65536:Int)<s.length:=by omega
  simp[B.Kn,go_sem,h,h',Rx,Ext.refl hwf]
 ·have h':¬(65536:Int)<s.length:=by omega
  simp[B.Kn,go_sem,h,h']
  refine(Zwe H (s:=s) (by omega) (st0:=st) s.length 0 [] [] .Zk .Zk _ st (by simp) (by simp) (by simp) (by simp) (.refl hwf) (Grow.nil _ _) (Grow.nil _ _) (by simp[AV.nms]) (by simp[go_sem]) (by simp[go_sem]) (by simp[go_sem]) (by simp[go_sem])).mono ?_
  rintro x e' s' ⟨hx,⟨rfl,hn⟩ | ⟨rfl,k2,k3,k4⟩⟩
  ·rw[List.drop_zero]at hn
   simp[go_sem,hn,Rx,hx]
  ·rw[List.drop_zero]at k2 k3 k4
   simp[go_sem,k2,k3,k4,hx]
   cases hh:Xn Ji ([],[],false) s 0 with
   | none=>rfl
   | some p=>rfl
end Go.Ev

/- The readers of the scanner. -/
namespace Go.Ev
open Go
variable {T : Tab} {st : St}
theorem L4 {s2:St} (hx:Ext st s2) (hg:Zh s2.h st.nx=some (.cells 134 true [.int .i64 0,.int .i64 0,.str []])) (O:T3):
  Z5 s2.h st.nx 0 [.int .i64 O.1.1,.int .i64 O.1.2.1,.str O.1.2.2]=some (Qi s2.h st.nx (.cells 134 true [.int .i64 O.1.1,.int .i64 O.1.2.1,.str O.1.2.2]))∧
   Z1 (Qi s2.h st.nx (.cells 134 true [.int .i64 O.1.1,.int .i64 O.1.2.1,.str O.1.2.2])) st.nx 0 3=some [.int .i64 O.1.1,.int .i64 O.1.2.1,.str O.1.2.2]∧Ext st ⟨Qi s2.h st.nx (.cells 134 true [.int .i64 O.1.1,.int .i64 O.1.2.1,.str O.1.2.2]),s2.nx⟩:=
 ⟨Qj hg,Qd (Zc hg),hx.Qh hg (Nat.le_refl _)⟩
theorem Zgo (H:B.Rm T) (hwf:st.Wf) {p i:Nat} {s:List UInt8} (a:At st p s i) {c:UInt8} (hc:s[i]? =some c):Qa T st (.fn 195 [] []) [.ptr p 0] (tk3 (if c=123 then((7,0,[]),1,0)else((8,0,[]),1,0))):=by
 refine Zs H.e H.f rfl ?_
 have hx:=Ext.new hwf (.cells 134 true [.int .i64 0,.int .i64 0,.str []])
 have hg:=Xe st.h st.nx
 have a1:=a.ext hx hwf
 have q0:=a1.r0
 have q1:=a1.r1
 have y:=hx.trans (Ext.aside hx.wf 12)
 have c123:((c.toNat:Int)=123)↔c=123:=by rw[←UInt8.toNat_inj];simp;omega
 simp only[Nat.add_assoc,Nat.reduceAdd]at y
 by_cases h:c=123
 ·obtain⟨k1,k2,k3⟩:=L4 (st:=st) y hg ((7,0,[]),1,0)
  simp only at k1 k2 k3
  simp[B.Kt,go_sem,NO.run,RO.run,q0,q1,hc]
  simp[go_sem,c123,h,k1,WO.run,Zg,Zm,Zr,RO.run,k2,tk3,k3]
 ·obtain⟨k1,k2,k3⟩:=L4 (st:=st) y hg ((8,0,[]),1,0)
  simp only at k1 k2 k3
  simp[B.Kt,go_sem,NO.run,RO.run,q0,q1,hc]
  simp[go_sem,c123,h,k1,WO.run,Zg,Zm,Zr,RO.run,k2,tk3,k3]
theorem Zbx (H:B.Mq T) (hwf:st.Wf) {p i:Nat} {s:List UInt8} (a:At st p s i) {c:UInt8} (hc:s[i]? =some c):Qa T st (.fn 196 [] []) [.ptr p 0] (tk3 (Xd 3 [c] 1)):=by
 refine Zs H.e H.f rfl ?_
 have hx:=Ext.new hwf (.cells 134 true [.int .i64 0,.int .i64 0,.str []])
 have hg:=Xe st.h st.nx
 have a1:=a.ext hx hwf
 have q0:=a1.r0
 have q1:=a1.r1
 have y:=hx.trans (Ext.aside hx.wf 24)
 simp only[Nat.add_assoc,Nat.reduceAdd]at y
 have hs:=a.hs
 have hi:=a.hi
 obtain⟨I,hI⟩:∃I:Int,I=(i:Int):=⟨_,rfl⟩
 obtain⟨w,hw⟩:∃w:Int,w=(i:Int)+1:=⟨_,rfl⟩
 have ek:IntKind.i64.wrap (I+1)=w:=by rw[hI,Zf (by omega) (by omega),hw]
 rw[←hI]at q1
 obtain⟨c',hc',hd⟩:=a.hd
 rw[hc]at hc';cases hc'
 have hsub:Q6 s (some (.int .i64 I)) (some (.int .i64 w))=some (.str [c]):=by
  rw[J6 (by omega) (by omega) (by omega),show I.toNat=i by omega,show w.toNat - i=1 by omega,hd];rfl
 clear a1 hI hw
 simp[B.Kq,go_sem,NO.run,RO.run,q0,q1,ek,hsub]
 refine(G0 H.Yd y.wf (k:=3) (x:=[c]) (n:=1) (by simp)).use fun s2 x2=> ?_
 obtain⟨k1,k2,k3⟩:=L4 (st:=st) (y.trans x2) (x2.get y.wf hg) (Xd 3 [c] 1)
 simp[go_sem,k1,WO.run,Zg,Zm,Zr,RO.run,k2,tk3,k3]
def O3 (s:List UInt8):T3:=if(J1 s).2.2=0 then Xd 6 (J1 s).1 (J1 s).2.1 else if(J1 s).2.2=26 then Qt 26 else Qt 37
def Pg (front:Nat) (u:List UInt8×Nat×Int):T3:=if u.2.2=0 then Xd 6 u.1 (front+u.2.1)else if u.2.2=3 then Qt 26 else Qt 37
def Zev (R:List UInt8):T3:=if R.head? =some 60 then Xd 3 [60,60] 2 else if R.head? =some 126 then Pg 2 (Zdv (R.drop 1))else Pg 1 (Zea R)
def De (R:List UInt8):T3:=if R.head? =some 62 then Xd 3 [62,62] 2 else Qt 37
def Pa (R:List UInt8):T3:=
 if R.head? =some 47 then Xd 5 ((R.drop 1).take (runN Qu (R.drop 1))) (2+runN Qu (R.drop 1))else Xd 4 (R.take (runN Qu R)) (1+runN Qu R)
theorem Zaf (s:List UInt8):(J1 s).1.length≤1000∧(J1 s).2.1≤s.length:=by
 unfold J1
 split
 ·split
  ·split
   ·simp
   ·split
    ·simp
    ·simp only;omega
  ·simp
 ·simp
theorem Zs1:∀(s:List UInt8) (i:Nat) (l D:List Nat) (n:Nat),P8 s i l=some (D,n)→n≤i+s.length
 | [],i,l,D,n,h=>by cases h
 | c::r,i,l,D,n,h=>by
   unfold P8 at h
   split at h
   ·injection h with h;injection h with h1 h2;subst h2;simp only[List.length_cons];omega
   ·split at h
    ·have:=Zs1 r _ _ _ _ h;simp only[List.length_cons];omega
    ·split at h
     ·cases h
     ·have:=Zs1 r _ _ _ _ h;simp only[List.length_cons];omega
theorem Zoa (s:List UInt8):(Zea s).1.length≤65536∧(Zea s).2.1≤s.length:=by
 unfold Zea
 split
 ·simp
 ·split
  ·simp
  ·rename_i l n h
   have h1:=Zd9 _ _ _ _ _ h
   have h2:=Zs1 _ _ _ _ _ h
   have h3:=Zox l
   simp only[List.length_nil]at h1⊢
   omega
theorem Ztp {σ:Type} {stepF:σ→UInt8→Option (Bool×σ)}:∀(s:List UInt8) (i:Nat) (x y:σ) (n:Nat),Xn stepF x s i=some (y,n)→n≤i+s.length
 | [],i,x,y,n,h=>by cases h
 | c::r,i,x,y,n,h=>by
   unfold Xn at h
   split at h
   ·have:=Ztp r _ _ _ _ h;simp only[List.length_cons];omega
   ·split at h
    ·cases h
    ·injection h with h;injection h with h1 h2;subst h2;simp only[List.length_cons];omega
    ·have:=Ztp r _ _ _ _ h;simp only[List.length_cons];omega
theorem Znk (s:List UInt8):(Zdv s).1.length≤65536∧(Zdv s).2.1≤s.length:=by
 unfold Zdv Po
 split
 ·simp
 ·split
  ·simp
  ·rename_i x n h
   have h2:=Ztp _ _ _ _ _ h
   split
   ·simp
   ·simp only
    omega
theorem At.head {p i:Nat} {s:List UInt8} (a:At st p s i):s[i+1]? =(s.drop (i+1)).head? :=by
 rw[List.head?_drop]
theorem Zoz (H:B.Na T) (hwf:st.Wf) {p i:Nat} {s:List UInt8} (a:At st p s i):Qa T st (.fn 193 [] []) [.ptr p 0] (tk3 (O3 (s.drop i))):=by
 refine Zs H.e H.f rfl ?_
 have hx:=Ext.new hwf (.cells 134 true [.int .i64 0,.int .i64 0,.str []])
 have hg:=Xe st.h st.nx
 have a1:=a.ext hx hwf
 have q0:=a1.r0
 have q1:=a1.r1
 have y:=hx.trans (Ext.aside hx.wf 19)
 simp only[Nat.add_assoc,Nat.reduceAdd]at y
 have hs:=a.hs
 have hi:=a.hi
 have hsub:Q6 s (some (.int .i64 (i:Int))) none=some (.str (s.drop i)):=by rw[Qp (by omega) (by omega)];simp
 have hle:=Zaf (s.drop i)
 have hun:=fun(st':St) (hw:st'.Wf)=>Zmg (st:=st') H.G5 hw (s:=s.drop i) (by simp;omega)
 unfold O3
 generalize J1 (s.drop i)=u at*
 obtain⟨x,n,e⟩:=u
 simp only at hle⊢
 simp[B.Vg,go_sem,NO.run,RO.run,q0,q1,hsub]
 refine(hun _ y.wf).use fun s2 x2=> ?_
 have y2:=y.trans x2
 have g2:=x2.get y.wf hg
 by_cases h0:e=0
 ·subst h0
  simp[go_sem,Rx]
  refine(G0 H.Yd y2.wf (k:=6) (x:=x) (n:=n) (by omega)).use fun s3 x3=> ?_
  obtain⟨k1,k2,k3⟩:=L4 (st:=st) (y2.trans x3) (x3.get y2.wf g2) (Xd 6 x n)
  simp[go_sem,k1,WO.run,Zg,Zm,Zr,RO.run,k2,tk3,k3]
 ·by_cases h26:e=26
  ·subst h26
   obtain⟨k1,k2,k3⟩:=L4 (st:=st) y2 g2 (Qt 26)
   simp only[Qt]at k1 k2 k3
   simp[go_sem,Rx,k1,WO.run,Zg,Zm,Zr,RO.run,k2,tk3,Qt,k3]
  ·obtain⟨k1,k2,k3⟩:=L4 (st:=st) y2 g2 (Qt 37)
   simp only[Qt]at k1 k2 k3
   simp[go_sem,Rx,h0,h26,k1,WO.run,Zg,Zm,Zr,RO.run,k2,tk3,Qt,k3]
theorem Zk9 (H:B.Ms T) (hwf:st.Wf) {p i:Nat} {s:List UInt8} (a:At st p s i):Qa T st (.fn 198 [] []) [.ptr p 0] (tk3 (De (s.drop (i+1)))):=by
 refine Zs H.e H.f rfl ?_
 have hx:=Ext.new hwf (.cells 134 true [.int .i64 0,.int .i64 0,.str []])
 have hg:=Xe st.h st.nx
 have a1:=a.ext hx hwf
 obtain⟨l,g⟩:=a1.g
 have hs:=a.hs
 have hf:=Eu H.Qx hx.wf g (by omega) a.hi (c:=62)
 obtain⟨R,hR⟩:∃R,R=s.drop (i+1):=⟨_,rfl⟩
 rw[a.head,←hR]at hf
 rw[←hR]
 clear hR
 unfold De
 simp[B.Y0,go_sem,NO.run]
 refine hf.use fun s2 x2=> ?_
 have y2:=hx.trans x2
 have g2:=x2.get hx.wf hg
 by_cases h:R.head? =some 62
 ·rw[if_pos h]
  rw[h]
  simp[go_sem]
  refine(G0 H.Yd y2.wf (k:=3) (x:=[62,62]) (n:=2) (by simp)).use fun s3 x3=> ?_
  obtain⟨k1,k2,k3⟩:=L4 (st:=st) (y2.trans x3) (x3.get y2.wf g2) (Xd 3 [62,62] 2)
  simp[go_sem,k1,WO.run,Zg,Zm,Zr,RO.run,k2,tk3,k3]
 ·rw[if_neg h]
  have hb:(R.head? == some 62)=false:=by simpa using h
  rw[hb]
  obtain⟨k1,k2,k3⟩:=L4 (st:=st) y2 g2 (Qt 37)
  simp only[Qt]at k1 k2 k3
  simp[go_sem,k1,WO.run,Zg,Zm,Zr,RO.run,k2,tk3,Qt,k3]
theorem Oa {s:List UInt8} {i f:Nat} {I w:Int} (hI:I=i) (hw:w=I+f) (h:i+f≤s.length):Q6 s (some (.int .i64 w)) none=some (.str (s.drop (i+f))):=by
 rw[Qp (by omega) (by omega),show w.toNat=i+f by omega]
theorem Zrw (H:B.Ro T) (hwf:st.Wf) {p i:Nat} {s:List UInt8} (a:At st p s i):Qa T st (.fn 199 [] []) [.ptr p 0] (tk3 (Pa (s.drop (i+1)))):=by
 refine Zs H.e H.f rfl ?_
 have hx:=Ext.new hwf (.cells 134 true [.int .i64 0,.int .i64 0,.str []])
 have hg:=Xe st.h st.nx
 have a1:=a.ext hx hwf
 obtain⟨l,g⟩:=a1.g
 have hs:=a.hs
 have hi:=a.hi
 have hf:=Eu H.Qx hx.wf g (by omega) a.hi (c:=47)
 obtain⟨R,hR⟩:∃R,R=s.drop (i+1):=⟨_,rfl⟩
 have hRl:R.length=s.length - (i+1):=by rw[hR,List.length_drop]
 rw[a.head,←hR]at hf
 rw[←hR]
 obtain⟨O,hO⟩:∃O,O=Pa R:=⟨_,rfl⟩
 rw[←hO]
 unfold Pa at hO
 simp[B.V3,go_sem,NO.run]
 refine hf.use fun s2 x2=> ?_
 have y2:=hx.trans x2
 have g2:=x2.get hx.wf hg
 have a2:=a1.ext x2 hx.wf
 have q0:=a2.r0
 have q1:=a2.r1
 obtain⟨I,hI⟩:∃I:Int,I=(i:Int):=⟨_,rfl⟩
 rw[←hI]at q1
 have y3:=y2.trans (Ext.aside y2.wf 14)
 have g3:Zh (⟨s2.h,s2.nx+14⟩:St).h st.nx=some (.cells 134 true [.int .i64 0,.int .i64 0,.str []]):=g2
 have main:∀(f:Nat) (k:Int) (D:List UInt8),D.length≤R.length→f≤2→O=Xd k (D.take (runN Qu D)) (f+runN Qu D)→
   Qa T ⟨s2.h,s2.nx+14⟩ (.fn 182 [] []) [.str D,.fn 67 [] []] (.int .i64 (runN Qu D:Nat))∧Q6 D none (some (.int .i64 (runN Qu D:Nat)))=some (.str (D.take (runN Qu D)))∧IntKind.i64.wrap ((f:Int)+(runN Qu D:Nat))=((f+runN Qu D:Nat):Int)∧
   ∀s4,Ext ⟨s2.h,s2.nx+14⟩ s4→Qa T s4 (.fn 209 [] []) [.int .i64 k,.str (D.take (runN Qu D)),.int .i64 ((f+runN Qu D:Nat):Int)] (tk3 O):=by
  intro f k D hD hf hOO
  have hrl:=E0 Qu D
  refine⟨Zaq H.Jt y3.wf (fun s' hw c=>Ic H.Y2 hw c) (by omega),?_,by rw[Zf (by omega) (by omega)];omega,fun s4 x4=> ?_⟩
  ·rw[E7 (by omega) (by omega)];simp
  ·rw[hOO]
   exact G0 H.Yd x4.wf (by simp;omega)
 by_cases h:R.head? =some 47
 ·rw[if_pos h]at hO
  obtain⟨r,hr⟩:∃r,R=47::r:=by
   cases R with
   | nil=>simp at h
   | cons c r=>simp at h;exact⟨r,by rw[h]⟩
  have hb:(R.head? == some 47)=true:=by simp[h]
  rw[hb]
  obtain⟨w,hw⟩:∃w:Int,w=I+2:=⟨_,rfl⟩
  have ek:IntKind.i64.wrap (I+2)=w:=by rw[hw,Zf (by omega) (by omega)]
  have hl2:i+2≤s.length:=by have:=congrArg List.length hr;rw[hRl]at this;simp at this;omega
  have hsub:Q6 s (some (.int .i64 w)) none=some (.str (R.drop 1)):=by
   rw[Oa hI (f:=2) (by omega) hl2,hR,List.drop_drop]
  obtain⟨m1,m2,m3,m4⟩:=main 2 5 (R.drop 1) (by simp) (by omega) hO
  clear main hO hr hR
  generalize R.drop 1=D at*
  generalize runN Qu D=N at*
  generalize D.take N=X at*
  generalize hZ:2+N=Z at*
  have m3':IntKind.i64.wrap (2+(N:Int))=(Z:Int):=m3
  simp[go_sem,RO.run,q0,q1,ek,hsub]
  refine m1.use fun s4 x4=> ?_
  simp[go_sem,m2,m3']
  refine(m4 s4 x4).use fun s5 x5=> ?_
  obtain⟨k1,k2,k3⟩:=L4 (st:=st) ((y3.trans x4).trans x5) (x5.get x4.wf (x4.get y3.wf g3)) O
  simp[go_sem,k1,WO.run,Zg,Zm,Zr,RO.run,k2,tk3,k3]
 ·rw[if_neg h]at hO
  have hb:(R.head? == some 47)=false:=by simpa using h
  rw[hb]
  obtain⟨w,hw⟩:∃w:Int,w=I+1:=⟨_,rfl⟩
  have ek:IntKind.i64.wrap (I+1)=w:=by rw[hw,Zf (by omega) (by omega)]
  have hsub:Q6 s (some (.int .i64 w)) none=some (.str R):=by
   rw[Oa hI (f:=1) (by omega) (by omega),hR]
  obtain⟨m1,m2,m3,m4⟩:=main 1 4 R (by omega) (by omega) hO
  clear main hO hR
  generalize runN Qu R=N at*
  generalize R.take N=X at*
  generalize hZ:1+N=Z at*
  have m3':IntKind.i64.wrap (1+(N:Int))=(Z:Int):=m3
  simp[go_sem,RO.run,q0,q1,ek,hsub]
  refine m1.use fun s4 x4=> ?_
  simp[go_sem,m2,m3']
  refine(m4 s4 x4).use fun s5 x5=> ?_
  obtain⟨k1,k2,k3⟩:=L4 (st:=st) ((y3.trans x4).trans x5) (x5.get x4.wf (x4.get y3.wf g3)) O
  simp[go_sem,k1,WO.run,Zg,Zm,Zr,RO.run,k2,tk3,k3]
end Go.Ev

/- What begins with the sign less; the token at a reader's place. -/
namespace Go.Ev
open Go
variable {T : Tab} {st : St}
theorem Zs9 (H:B.Gu T) (hwf:st.Wf) {p i:Nat} {s:List UInt8} (a:At st p s i):Qa T st (.fn 197 [] []) [.ptr p 0] (tk3 (Zev (s.drop (i+1)))):=by
 refine Zs H.e H.f rfl ?_
 have hx:=Ext.new hwf (.cells 134 true [.int .i64 0,.int .i64 0,.str []])
 have hg:=Xe st.h st.nx
 have a1:=a.ext hx hwf
 obtain⟨l,g⟩:=a1.g
 have hs:=a.hs
 have hi:=a.hi
 have hf:=Eu H.Qx hx.wf g (by omega) a.hi (c:=60)
 obtain⟨R,hR⟩:∃R,R=s.drop (i+1):=⟨_,rfl⟩
 have hRl:R.length=s.length - (i+1):=by rw[hR,List.length_drop]
 have hhead:=a.head
 rw[←hR]at hhead
 rw[hhead]at hf
 rw[←hR]
 obtain⟨O,hO⟩:∃O,O=Zev R:=⟨_,rfl⟩
 rw[←hO]
 unfold Zev at hO
 simp[B.U1,go_sem,NO.run]
 refine hf.use fun s2 x2=> ?_
 have y2:=hx.trans x2
 have g2:=x2.get hx.wf hg
 by_cases h:R.head? =some 60
 ·rw[if_pos h]at hO
  have hb:(R.head? == some 60)=true:=by simp[h]
  rw[hb]
  simp[go_sem]
  refine(G0 H.Yd y2.wf (k:=3) (x:=[60,60]) (n:=2) (by simp)).use fun s3 x3=> ?_
  rw[←hO]
  obtain⟨k1,k2,k3⟩:=L4 (st:=st) (y2.trans x3) (x3.get y2.wf g2) O
  simp[go_sem,k1,WO.run,Zg,Zm,Zr,RO.run,k2,tk3,k3]
 rw[if_neg h]at hO
 have hb:(R.head? == some 60)=false:=by simpa using h
 rw[hb]
 have a2:=a1.ext x2 hx.wf
 obtain⟨l2,gg2⟩:=a2.g
 have hf2:=Eu H.Qx y2.wf gg2 (by omega) a.hi (c:=126)
 rw[hhead]at hf2
 simp[go_sem]
 refine hf2.use fun s3 x3=> ?_
 have y3:=y2.trans x3
 have g3:=x3.get y2.wf g2
 have a3:=a2.ext x3 y2.wf
 have q0:=a3.r0
 have q1:=a3.r1
 obtain⟨I,hI⟩:∃I:Int,I=(i:Int):=⟨_,rfl⟩
 rw[←hI]at q1
 have y4:=y3.trans (Ext.aside y3.wf 22)
 have g4:Zh (⟨s3.h,s3.nx+22⟩:St).h st.nx=some (.cells 134 true [.int .i64 0,.int .i64 0,.str []]):=g3
 have main:∀(f:Nat) (u:List UInt8×Nat×Int),f≤2→u.1.length≤65536→u.2.1≤s.length→O=Pg f u→
   (u.2.2=0∧IntKind.i64.wrap ((f:Int)+(u.2.1:Nat))=((f+u.2.1:Nat):Int)∧∀s5,s5.Wf→Qa T s5 (.fn 209 [] []) [.int .i64 6,.str u.1,.int .i64 ((f+u.2.1:Nat):Int)] (tk3 O))∨(u.2.2≠0∧u.2.2=3∧O=Qt 26)∨(u.2.2≠0∧u.2.2≠3∧O=Qt 37):=by
  intro f u hf h1 h2 hOO
  unfold Pg at hOO
  by_cases h0:u.2.2=0
  ·rw[if_pos h0]at hOO
   refine .inl ⟨h0,by rw[Zf (by omega) (by omega)];omega,fun s5 hw=> ?_⟩
   rw[hOO]
   exact G0 H.Yd hw (by omega)
  ·rw[if_neg h0]at hOO
   by_cases h3:u.2.2=3
   ·rw[if_pos h3]at hOO;exact .inr (.inl ⟨h0,h3,hOO⟩)
   ·rw[if_neg h3]at hOO;exact .inr (.inr ⟨h0,h3,hOO⟩)
 by_cases h2:R.head? =some 126
 ·rw[if_pos h2]at hO
  obtain⟨r,hr⟩:∃r,R=126::r:=by
   cases R with
   | nil=>simp at h2
   | cons c r=>simp at h2;exact⟨r,by rw[h2]⟩
  have hb2:(R.head? == some 126)=true:=by simp[h2]
  rw[hb2]
  obtain⟨w,hw⟩:∃w:Int,w=I+2:=⟨_,rfl⟩
  have ek:IntKind.i64.wrap (I+2)=w:=by rw[hw,Zf (by omega) (by omega)]
  have hl2:i+2≤s.length:=by have:=congrArg List.length hr;rw[hRl]at this;simp at this;omega
  have hsub:Q6 s (some (.int .i64 w)) none=some (.str (R.drop 1)):=by
   rw[Oa hI (f:=2) (by omega) hl2,hR,List.drop_drop]
  have hle:=Znk (R.drop 1)
  have hdl:(R.drop 1).length≤s.length:=by rw[List.length_drop];omega
  have hcall:=Zkw H.X4 y4.wf (s:=R.drop 1) (by omega)
  have hm:=main 2 _ (by omega) hle.1 (by omega) hO
  clear main hO hr hle
  generalize Zdv (R.drop 1)=u at*
  generalize R.drop 1=D at*
  obtain⟨x,n,e⟩:=u
  simp only at hm
  simp[go_sem,RO.run,q0,q1,ek,hsub]
  refine hcall.use fun s5 x5=> ?_
  have y5:=y4.trans x5
  have g5:=x5.get y4.wf g4
  rcases hm with ⟨rfl,m2,m3⟩ | ⟨h0,h3,rfl⟩ | ⟨h0,h3,rfl⟩
  ·have m2':IntKind.i64.wrap (2+(n:Int))=((2+n:Nat):Int):=m2
   generalize 2+n=Z at*
   simp[go_sem,Rx,m2']
   refine(m3 s5 y5.wf).use fun s6 x6=> ?_
   obtain⟨k1,k2,k3⟩:=L4 (st:=st) (y5.trans x6) (x6.get y5.wf g5) O
   simp[go_sem,k1,WO.run,Zg,Zm,Zr,RO.run,k2,tk3,k3]
  ·obtain⟨k1,k2,k3⟩:=L4 (st:=st) y5 g5 (Qt 26)
   simp only[Qt]at k1 k2 k3
   simp[go_sem,Rx,h3,k1,WO.run,Zg,Zm,Zr,RO.run,k2,tk3,Qt,k3]
  ·obtain⟨k1,k2,k3⟩:=L4 (st:=st) y5 g5 (Qt 37)
   simp only[Qt]at k1 k2 k3
   simp[go_sem,Rx,h0,h3,k1,WO.run,Zg,Zm,Zr,RO.run,k2,tk3,Qt,k3]
 ·rw[if_neg h2]at hO
  have hb2:(R.head? == some 126)=false:=by simpa using h2
  rw[hb2]
  obtain⟨w,hw⟩:∃w:Int,w=I+1:=⟨_,rfl⟩
  have ek:IntKind.i64.wrap (I+1)=w:=by rw[hw,Zf (by omega) (by omega)]
  have hsub:Q6 s (some (.int .i64 w)) none=some (.str R):=by
   rw[Oa hI (f:=1) (by omega) (by omega),hR]
  have hle:=Zoa R
  have hcall:=Zr7 H.G2 y4.wf (s:=R) (by omega)
  have hm:=main 1 _ (by omega) hle.1 (by omega) hO
  clear main hO hle
  generalize Zea R=u at*
  obtain⟨x,n,e⟩:=u
  simp only at hm
  simp[go_sem,RO.run,q0,q1,ek,hsub]
  refine hcall.use fun s5 x5=> ?_
  have y5:=y4.trans x5
  have g5:=x5.get y4.wf g4
  rcases hm with ⟨rfl,m2,m3⟩ | ⟨h0,h3,rfl⟩ | ⟨h0,h3,rfl⟩
  ·have m2':IntKind.i64.wrap (1+(n:Int))=((1+n:Nat):Int):=m2
   generalize 1+n=Z at*
   simp[go_sem,Rx,m2']
   refine(m3 s5 y5.wf).use fun s6 x6=> ?_
   obtain⟨k1,k2,k3⟩:=L4 (st:=st) (y5.trans x6) (x6.get y5.wf g5) O
   simp[go_sem,k1,WO.run,Zg,Zm,Zr,RO.run,k2,tk3,k3]
  ·obtain⟨k1,k2,k3⟩:=L4 (st:=st) y5 g5 (Qt 26)
   simp only[Qt]at k1 k2 k3
   simp[go_sem,Rx,h3,k1,WO.run,Zg,Zm,Zr,RO.run,k2,tk3,Qt,k3]
  ·obtain⟨k1,k2,k3⟩:=L4 (st:=st) y5 g5 (Qt 37)
   simp only[Qt]at k1 k2 k3
   simp[go_sem,Rx,h0,h3,k1,WO.run,Zg,Zm,Zr,RO.run,k2,tk3,Qt,k3]
def Zhh (s:List UInt8):T3:=
 if(Bu (s.take (runN Qu s))).2.2.2≠0 then Qt (Bu (s.take (runN Qu s))).2.2.2
 else(((Bu (s.take (runN Qu s))).1,(Bu (s.take (runN Qu s))).2.1,(Bu (s.take (runN Qu s))).2.2.1),runN Qu s,0)
def Hc:List UInt8→T3
 | []=>Qt 37
 | c::R=>
   if c=40 then O3 (c::R)else if c=41 then Qt 37 else if c=123 then((7,0,[]),1,0)else if c=125 then((8,0,[]),1,0)
   else if c=91∨c=93 then Xd 3 [c] 1 else if c=60 then Zev R else if c=62 then De R else if c=47 then Pa R
   else if 128≤c.toNat∧c.toNat<160 then Zay c R else Zhh (c::R)
def Zx8:List (AV×AV):=[(.int .u8 40,.fn 193 [] []),(.int .u8 41,.fn 194 [] []),(.int .u8 123,.fn 195 [] []),(.int .u8 125,.fn 195 [] []),(.int .u8 91,.fn 196 [] []),(.int .u8 93,.fn 196 [] []),(.int .u8 60,.fn 197 [] []),(.int .u8 62,.fn 198 [] []),(.int .u8 47,.fn 199 [] [])]
def Zke (c:UInt8):Option AV:=
 if c=40 then some (.fn 193 [] [])else if c=41 then some (.fn 194 [] [])else if c=123 then some (.fn 195 [] [])else if c=125 then some (.fn 195 [] [])else if c=91 then some (.fn 196 [] [])else if c=93 then some (.fn 196 [] [])else if c=60 then some (.fn 197 [] [])else if c=62 then some (.fn 198 [] [])else if c=47 then some (.fn 199 [] [])else none
theorem Zlu (c:UInt8):Zg0 (.i .u8) (.int .u8 (c.toNat:Int)) Zx8=some (Zke c):=by
 have hn:∀k:UInt8,c≠k→¬(c.toNat:Int)=(k.toNat:Int):=fun k h=>Uj h rfl
 unfold Zx8 Zke
 by_cases h1:c=40
 ·subst h1;rfl
 by_cases h2:c=41
 ·subst h2;rfl
 by_cases h3:c=123
 ·subst h3;rfl
 by_cases h4:c=125
 ·subst h4;rfl
 by_cases h5:c=91
 ·subst h5;rfl
 by_cases h6:c=93
 ·subst h6;rfl
 by_cases h7:c=60
 ·subst h7;rfl
 by_cases h8:c=62
 ·subst h8;rfl
 by_cases h9:c=47
 ·subst h9;rfl
 have m1:=hn _ h1
 have m2:=hn _ h2
 have m3:=hn _ h3
 have m4:=hn _ h4
 have m5:=hn _ h5
 have m6:=hn _ h6
 have m7:=hn _ h7
 have m8:=hn _ h8
 have m9:=hn _ h9
 simp at m1 m2 m3 m4 m5 m6 m7 m8 m9
 simp[Zg0,Ks,h1,h2,h3,h4,h5,h6,h7,h8,h9,m1,m2,m3,m4,m5,m6,m7,m8,m9]
theorem Zrh (H:B.Hm T) (hwf:st.Wf):Jg (call T (.fn 185 [] []) [] st) fun v s'=>v= .map st.nx∧Ext st s'∧Zh s'.h st.nx=some (.map Zx8):=by
 refine Q3 H.e H.f rfl ?_
 have hm:∀es,Zp st.nx ((st.nx,Z7.map es)::st.h)=(st.nx,Z7.map es)::st.h:=fun es=>by
  have:Kk st.nx ((st.nx,Z7.map es)::st.h)=[]:=by
   simp only[Kk]
   exact Uo fun n o ho=>hwf.lt n o ho
  rw[Xj,this,Ed]
 simp[B.Mb,go_sem,NO.run,WO.run,Ze,Jv,Zqw,Ks,hm]
 exact⟨Ext.new hwf _,rfl⟩
end Go.Ev

/- The token at a reader's place; Next. -/
namespace Go.Ev
open Go
variable {T : Tab} {st : St}
theorem Zo0 (H:B.Hm T) {p i:Nat} {s:List UInt8} {c:UInt8} {R:List UInt8} (hc:s[i]? =some c) (hR:R=s.drop (i+1)) (hd:s.drop i=c::R) {f:AV} (hf:Zke c=some f) (hwf:st.Wf) (a:At st p s i):
  Qa T st f [.ptr p 0] (tk3 (Hc (c::R))):=by
 unfold Zke at hf
 by_cases h1:c=40
 ·rw[if_pos h1]at hf
  injection hf with hf;subst hf
  have:=Zoz H.Vg hwf a
  rw[hd]at this
  rw[Hc,if_pos h1];exact this
 rw[if_neg h1]at hf
 by_cases h2:c=41
 ·rw[if_pos h2]at hf
  injection hf with hf;subst hf
  rw[Hc,if_neg h1,if_pos h2]
  exact Ds H.Q1 hwf
 rw[if_neg h2]at hf
 by_cases h3:c=123
 ·rw[if_pos h3]at hf
  injection hf with hf;subst hf
  have:=Zgo H.Kt hwf a hc
  rw[if_pos h3]at this
  rw[Hc,if_neg h1,if_neg h2,if_pos h3];exact this
 rw[if_neg h3]at hf
 by_cases h4:c=125
 ·rw[if_pos h4]at hf
  injection hf with hf;subst hf
  have:=Zgo H.Kt hwf a hc
  rw[if_neg h3]at this
  rw[Hc,if_neg h1,if_neg h2,if_neg h3,if_pos h4];exact this
 rw[if_neg h4]at hf
 by_cases h5:c=91
 ·rw[if_pos h5]at hf
  injection hf with hf;subst hf
  rw[Hc,if_neg h1,if_neg h2,if_neg h3,if_neg h4,if_pos (.inl h5)]
  exact Zbx H.Kq hwf a hc
 rw[if_neg h5]at hf
 by_cases h6:c=93
 ·rw[if_pos h6]at hf
  injection hf with hf;subst hf
  rw[Hc,if_neg h1,if_neg h2,if_neg h3,if_neg h4,if_pos (.inr h6)]
  exact Zbx H.Kq hwf a hc
 rw[if_neg h6]at hf
 have h56:¬(c=91∨c=93):=fun h=>h.elim h5 h6
 by_cases h7:c=60
 ·rw[if_pos h7]at hf
  injection hf with hf;subst hf
  have:=Zs9 H.U1 hwf a
  rw[←hR]at this
  rw[Hc,if_neg h1,if_neg h2,if_neg h3,if_neg h4,if_neg h56,if_pos h7];exact this
 rw[if_neg h7]at hf
 by_cases h8:c=62
 ·rw[if_pos h8]at hf
  injection hf with hf;subst hf
  have:=Zk9 H.Y0 hwf a
  rw[←hR]at this
  rw[Hc,if_neg h1,if_neg h2,if_neg h3,if_neg h4,if_neg h56,if_neg h7,if_pos h8];exact this
 rw[if_neg h8]at hf
 by_cases h9:c=47
 ·rw[if_pos h9]at hf
  injection hf with hf;subst hf
  have:=Zrw H.V3 hwf a
  rw[←hR]at this
  rw[Hc,if_neg h1,if_neg h2,if_neg h3,if_neg h4,if_neg h56,if_neg h7,if_neg h8,if_pos h9];exact this
 rw[if_neg h9]at hf
 cases hf
theorem Zrg {c:UInt8} {R:List UInt8} (hf:Zke c=none):Hc (c::R)=if 128≤c.toNat∧c.toNat<160 then Zay c R else Zhh (c::R):=by
 unfold Zke at hf
 by_cases h1:c=40
 ·rw[if_pos h1]at hf;cases hf
 rw[if_neg h1]at hf
 by_cases h2:c=41
 ·rw[if_pos h2]at hf;cases hf
 rw[if_neg h2]at hf
 by_cases h3:c=123
 ·rw[if_pos h3]at hf;cases hf
 rw[if_neg h3]at hf
 by_cases h4:c=125
 ·rw[if_pos h4]at hf;cases hf
 rw[if_neg h4]at hf
 by_cases h5:c=91
 ·rw[if_pos h5]at hf;cases hf
 rw[if_neg h5]at hf
 by_cases h6:c=93
 ·rw[if_pos h6]at hf;cases hf
 rw[if_neg h6]at hf
 by_cases h7:c=60
 ·rw[if_pos h7]at hf;cases hf
 rw[if_neg h7]at hf
 by_cases h8:c=62
 ·rw[if_pos h8]at hf;cases hf
 rw[if_neg h8]at hf
 by_cases h9:c=47
 ·rw[if_pos h9]at hf;cases hf
 have h56:¬(c=91∨c=93):=fun h=>h.elim h5 h6
 rw[Hc,if_neg h1,if_neg h2,if_neg h3,if_neg h4,if_neg h56,if_neg h7,if_neg h8,if_neg h9]
theorem Zku (H:B.Rp T) (hwf:st.Wf) {p i:Nat} {s:List UInt8} (a:At st p s i):Qa T st (.fn 175 [] []) [.ptr p 0] (tk3 (Hc (s.drop i))):=by
 refine Zs H.e H.f rfl ?_
 have hx:=Ext.new hwf (.cells 134 true [.int .i64 0,.int .i64 0,.str []])
 have hg:=Xe st.h st.nx
 have a1:=a.ext hx hwf
 have q0:=a1.r0
 have q1:=a1.r1
 have hs:=a.hs
 have hi:=a.hi
 obtain⟨c,hc,hd⟩:=a.hd
 have y:=hx.trans (Ext.aside hx.wf 12)
 have hgy:Zh (⟨(st.nx,Z7.cells 134 true [.int .i64 0,.int .i64 0,.str []])::st.h,st.nx+1+12⟩:St).h st.nx=some (.cells 134 true [.int .i64 0,.int .i64 0,.str []]):=hg
 have ay:=a.ext y hwf
 simp only[Nat.add_assoc,Nat.reduceAdd]at y hgy ay
 obtain⟨O,hO⟩:∃O,O=Hc (s.drop i):=⟨_,rfl⟩
 rw[←hO]
 simp[B.V4,go_sem,NO.run,RO.run,q0,q1,hc]
 refine(Zrh H.Mb y.wf).mono ?_
 rintro _ s2 ⟨rfl,x2,g2⟩
 have y2:=y.trans x2
 have hg2:=x2.get y.wf hgy
 have a2:=ay.ext x2 y.wf
 have hlk:=Zlu c
 cases hrv:Zke c with
 | some f=>
   rw[hrv]at hlk
   have ht:=Zo0 H.Mb hc rfl hd hrv y2.wf a2
   rw[←hd,←hO]at ht
   simp[go_sem,RO.run,g2,hlk,Ks]
   refine ht.use fun s3 x3=> ?_
   obtain⟨k1,k2,k3⟩:=L4 (st:=st) (y2.trans x3) (x3.get y2.wf hg2) O
   simp[go_sem,k1,WO.run,Zg,Zm,Zr,RO.run,k2,tk3,k3]
 | none=>
   rw[hrv]at hlk
   have ht:=Zrg (R:=s.drop (i+1)) hrv
   rw[hd,ht]at hO
   simp[go_sem,RO.run,g2,hlk,Ks]
   by_cases hb:128≤c.toNat∧c.toNat<160
   ·rw[if_pos hb]at hO
    have hbin:=Znl H.Vf y2.wf a2 hc hb.1
    rw[←hO]at hbin
    have b1:(128:Int)≤c.toNat:=by omega
    have b2:(c.toNat:Int)<160:=by omega
    simp[go_sem,hb.1,hb.2,b1,b2]
    refine hbin.use fun s3 x3=> ?_
    obtain⟨k1,k2,k3⟩:=L4 (st:=st) (y2.trans x3) (x3.get y2.wf hg2) O
    simp[go_sem,k1,WO.run,Zg,Zm,Zr,RO.run,k2,tk3,k3]
   ·rw[if_neg hb]at hO
    have r0:=a2.r0
    have r1:=a2.r1
    have hsub:Q6 s (some (.int .i64 (i:Int))) none=some (.str (s.drop i)):=by rw[Qp (by omega) (by omega)];simp
    have hrl:=E0 Qu (s.drop i)
    rw[List.length_drop]at hrl
    have hrun:=fun(st':St) (hw:st'.Wf)=>Zaq (st:=st') H.Jt hw (s:=s.drop i) (f:= .fn 67 [] []) (p:=Qu) (fun s' hw c=>Ic H.Y2 hw c) (by simp;omega)
    unfold Zhh at hO
    rw[←hd]at hO
    generalize hN:runN Qu (s.drop i)=N at*
    have hword:=fun(st':St) (hw:st'.Wf)=>Zt1 (st:=st') H.Bf hw (s:=(s.drop i).take N) (by simp;omega)
    obtain⟨I,hI⟩:∃I:Int,I=(i:Int):=⟨_,rfl⟩
    obtain⟨w,hw⟩:∃w:Int,w=I+(N:Int):=⟨_,rfl⟩
    have ek:IntKind.i64.wrap (I+(N:Int))=w:=by rw[hw,Zf (by omega) (by omega)]
    have hsub2:Q6 s (some (.int .i64 I)) (some (.int .i64 w))=some (.str ((s.drop i).take N)):=by
     rw[J6 (by omega) (by omega) (by omega)]
     congr 3
     ·omega
     ·congr 1;omega
    rw[←hI]at r1 hsub
    have y3:=y2.trans (Ext.aside y2.wf 13)
    have a3:=a2.ext (Ext.aside y2.wf 13) y2.wf
    have hg3:Zh (⟨s2.h,s2.nx+13⟩:St).h st.nx=some (.cells 134 true [.int .i64 0,.int .i64 0,.str []]):=hg2
    have hb':(128≤c.toNat∧(128:Int)≤c.toNat∧¬(c.toNat:Int)<160∧¬c.toNat<160)∨(¬128≤c.toNat∧¬(128:Int)≤c.toNat∧True∧True):=by
     by_cases h:128≤c.toNat
     ·exact .inl ⟨h,by omega,by omega,by omega⟩
     ·exact .inr ⟨h,by omega,trivial,trivial⟩
    generalize hWd:(s.drop i).take N=X at*
    generalize hWt:Bu X=Wt at*
    obtain⟨wk,wn,wx,we⟩:=Wt
    simp only at hO
    rcases hb' with ⟨b1,b2,b3,b4⟩ | ⟨b1,b2,b3,b4⟩
    all_goals
     simp[go_sem,b1,b2,b3,b4,RO.run,r0,r1,hsub]
     refine(hrun _ y3.wf).use fun s3 x3=> ?_
     have y4:=y3.trans x3
     have a4:=a3.ext x3 y3.wf
     have hg4:=x3.get y3.wf hg3
     have p0:=a4.r0
     have p1:=a4.r1
     rw[←hI]at p1
     simp[go_sem,RO.run,p0,p1,ek,hsub2]
     have y5:=y4.trans (Ext.aside y4.wf 25)
     refine(hword _ y5.wf).use fun s5 x5=> ?_
     have x6:=Ext.put y4.wf (s:=s5) x5 (Nat.le_refl _) (by omega) (.cells 134 true [.int .i64 wk,.int .i64 wn,.str wx])
     have y6:=y4.trans x6
     have hg6:=x6.get y4.wf hg4
     have hz:Zh ((s3.nx,Z7.cells 134 true [.int .i64 wk,.int .i64 wn,.str wx])::s5.h) s3.nx=some (.cells 134 true [.int .i64 wk,.int .i64 wn,.str wx]):=by simp[Ze]
     simp[go_sem,toW,Yj,Vp,NO.run,WO.run,Vo]
     by_cases hwe:we=0
     ·rw[if_neg (by simpa using hwe)]at hO
      subst hO
      obtain⟨k1,k2,k3⟩:=L4 (st:=st) y6 hg6 ((wk,wn,wx),N,0)
      simp only at k1 k2 k3
      simp[go_sem,hwe,RO.run,K5,k1,WO.run,Zg,Zm,Zr,k2,tk3,k3]
     ·rw[if_pos hwe]at hO
      subst hO
      obtain⟨k1,k2,k3⟩:=L4 (st:=st) y6 hg6 (Qt we)
      simp only[Qt]at k1 k2 k3
      simp[go_sem,hwe,k1,WO.run,Zg,Zm,Zr,RO.run,k2,tk3,Qt,k3]
def Xq (s:List UInt8) (i:Int):T3:=
 if 65536<s.length then Qt 3
 else if i<0∨(s.length:Int)<i then Qt 2
 else let k:=i.toNat+skp false (s.drop i.toNat)
  if k=s.length then((0,0,[]),k,4)else((Hc (s.drop k)).1,k+(Hc (s.drop k)).2.1,(Hc (s.drop k)).2.2)
theorem Dt (k:Int) (x:List UInt8) (n:Nat):(Xd k x n).2.1≤n:=by
 unfold Xd
 split
 ·simp[Qt]
 ·split
  ·exact Nat.le_refl _
  ·simp[Qt]
theorem Zpb (s:List UInt8):(Hc s).2.1≤s.length:=by
 have he:∀e,(Qt e).2.1≤s.length:=fun e=>Nat.zero_le _
 cases s with
 | nil=>exact Nat.zero_le _
 | cons c R=>
   have hf:∀k l,(Zcg k l R).2.1≤R.length+1:=fun k l=>by
    unfold Zcg
    split
    ·exact Nat.zero_le _
    ·simp only;omega
   have hcn:∀k l,(Dc k l R).2.1≤R.length+1:=fun k l=>by
    unfold Dc
    split
    ·exact Nat.zero_le _
    ·split
     ·exact Nat.zero_le _
     ·refine Nat.le_trans (Dt _ _ _) ?_
      rename_i h1 h2
      rw[List.length_drop]at h2
      omega
   have hde:∀(f:Nat) (u:List UInt8×Nat×Int),f+u.2.1≤R.length+1→(Pg f u).2.1≤R.length+1:=fun f u h=>by
    unfold Pg
    split
    ·exact Nat.le_trans (Dt _ _ _) h
    ·split <;> exact Nat.zero_le _
   unfold Hc
   simp only[List.length_cons]
   split
   ·unfold O3
    split
    ·exact Nat.le_trans (Dt _ _ _) (Zaf _).2
    ·split <;> exact Nat.zero_le _
   split
   ·exact Nat.zero_le _
   split
   ·simp
   split
   ·simp
   split
   ·exact Nat.le_trans (Dt _ _ _) (by omega)
   split
   ·unfold Zev
    split
    ·refine Nat.le_trans (Dt _ _ _) ?_
     rename_i h
     cases R with
     | nil=>simp at h
     | cons a r=>simp
    ·split
     ·rename_i h
      refine hde _ _ ?_
      have:=(Znk (R.drop 1)).2
      rw[List.length_drop]at this
      cases R with
      | nil=>simp at h
      | cons a r=>simp at this⊢;omega
     ·refine hde _ _ ?_
      have:=(Zoa R).2
      omega
   split
   ·unfold De
    split
    ·refine Nat.le_trans (Dt _ _ _) ?_
     rename_i h
     cases R with
     | nil=>simp at h
     | cons a r=>simp
    ·exact Nat.zero_le _
   split
   ·unfold Pa
    split
    ·refine Nat.le_trans (Dt _ _ _) ?_
     rename_i h
     have:=E0 Qu (R.drop 1)
     rw[List.length_drop]at this
     cases R with
     | nil=>simp at h
     | cons a r=>simp at this⊢;omega
    ·refine Nat.le_trans (Dt _ _ _) ?_
     have:=E0 Qu R
     omega
   split
   ·unfold Zay
    (repeat' split) <;> first | exact hf _ _ | exact hcn _ _ | exact Nat.zero_le _
   ·unfold Zhh
    split
    ·exact Nat.zero_le _
    ·have:=E0 Qu (c::R)
     simpa using this
theorem Zlw (H:B.Fc T) (hwf:st.Wf) {s:List UInt8} {i:Int} (hi0: -9223372036854775808≤i) (hi1:i≤9223372036854775807) (hs:s.length<1000000000):Qa T st (.fn 158 [] []) [.str s,.int .i64 i] (tk3 (Xq s i)):=by
 refine Zs H.e H.f rfl ?_
 have hx:=Ext.new hwf (.cells 134 true [.int .i64 0,.int .i64 0,.str []])
 have hg:=Xe st.h st.nx
 obtain⟨O,hO⟩:∃O,O=Xq s i:=⟨_,rfl⟩
 rw[←hO]
 unfold Xq at hO
 by_cases hl:65536<s.length
 ·rw[if_pos hl]at hO
  subst hO
  obtain⟨k1,k2,k3⟩:=L4 (st:=st) hx hg (Qt 3)
  simp only[Qt]at k1 k2 k3
  simp[B.Mm,go_sem,NO.run,hl,show (65536:Int)<s.length by omega,k1,WO.run,Zg,Zm,Zr,RO.run,k2,tk3,Qt,k3]
 ·rw[if_neg hl]at hO
  have hl':¬(65536:Int)<s.length:=by omega
  by_cases hb:i<0∨(s.length:Int)<i
  ·rw[if_pos hb]at hO
   subst hO
   obtain⟨k1,k2,k3⟩:=L4 (st:=st) hx hg (Qt 2)
   simp only[Qt]at k1 k2 k3
   by_cases h0:i<0
   ·simp[B.Mm,go_sem,NO.run,hl,hl',h0,k1,WO.run,Zg,Zm,Zr,RO.run,k2,tk3,Qt,k3]
   ·have h2:(s.length:Int)<i:=by rcases hb with h | h;exact absurd h h0;exact h
    simp[B.Mm,go_sem,NO.run,hl,hl',h0,h2,k1,WO.run,Zg,Zm,Zr,RO.run,k2,tk3,Qt,k3]
  ·rw[if_neg hb]at hO
   have h0:¬i<0:=fun h=>hb (.inl h)
   have h2:¬(s.length:Int)<i:=fun h=>hb (.inr h)
   obtain⟨j,rfl⟩:=Int.eq_ofNat_of_zero_le (show 0≤i by omega)
   simp only[Int.toNat_natCast]at hO
   have y1:=hx.trans (Ext.new hx.wf (Ia false s j))
   have x1':=Ext.new hx.wf (Ia false s j)
   have hg1:Zh ((st.nx+1,Ia false s j)::(st.nx,Z7.cells 134 true [.int .i64 0,.int .i64 0,.str []])::st.h) st.nx=some (.cells 134 true [.int .i64 0,.int .i64 0,.str []]):=by simp[Ze]
   have hr1:Zh ((st.nx+1,Ia false s j)::(st.nx,Z7.cells 134 true [.int .i64 0,.int .i64 0,.str []])::st.h) (st.nx+1)=some (Ia false s j):=by simp[Ze]
   simp only[Nat.add_assoc,Nat.reduceAdd]at y1
   have hsk:=Zyj H.U2 (st:=⟨(st.nx+1,Ia false s j)::(st.nx,Z7.cells 134 true [.int .i64 0,.int .i64 0,.str []])::st.h,st.nx+2⟩) (s:=s) (by omega) (i:=j) (by omega) y1.wf hr1
   have hle:=A7 false (s.drop j)
   rw[List.length_drop]at hle
   generalize hK:j+skp false (s.drop j)=K at*
   simp only[Ia]at hsk
   simp[B.Mm,go_sem,NO.run,hl,hl',h0,h2,Nat.add_assoc]
   refine hsk.mono ?_
   rintro _ s2 ⟨rfl,f2,g2⟩
   have y2:=y1.Yo f2 (by simp)
   have hg2:=f2.get y1.wf hg1 (by simp)
   have r1:Zo s2.h (st.nx+1) 1=some (.int .i64 (K:Int)):=by simp[Zo,g2]
   by_cases hKe:K=s.length
   ·rw[if_pos hKe]at hO
    subst hO
    have hKe':(K:Int)=s.length:=by omega
    have y3:=y2.trans (Ext.aside y2.wf 10)
    have hg3:Zh (⟨s2.h,s2.nx+10⟩:St).h st.nx=some (.cells 134 true [.int .i64 0,.int .i64 0,.str []]):=hg2
    obtain⟨k1,k2,k3⟩:=L4 (st:=st) y3 hg3 ((0,0,[]),K,4)
    have hne:st.nx≠st.nx+1:=by omega
    have r2:Zo (Qi s2.h st.nx (.cells 134 true [.int .i64 0,.int .i64 0,.str []])) (st.nx+1) 1=some (.int .i64 (K:Int)):=by
     simp only[Zo]
     rw[Zl hg2 hne,g2];rfl
    simp only at k1 k2 k3
    obtain⟨L,hL⟩:∃L:Int,L=(s.length:Int):=⟨_,rfl⟩
    rw[hKe',←hL]at r1 r2
    simp[go_sem,RO.run,r1,←hL]
    simp[go_sem,RO.run,WO.run,r1,reI,r2,k1]
    refine⟨rfl,?_⟩
    have hKL:(K:Int)=L:=by omega
    simp[go_sem,WO.run,Zg,Zm,Zr,RO.run,k2,tk3,k3,hKL]
   ·rw[if_neg hKe]at hO
    have hKe':¬(K:Int)=s.length:=by omega
    have hat:At s2 (st.nx+1) s K:=⟨⟨false,g2⟩,by omega,by omega⟩
    have htk:=Zku H.V4 y2.wf hat
    have hlt:=Zpb (s.drop K)
    rw[List.length_drop]at hlt
    generalize Hc (s.drop K)=W at*
    obtain⟨⟨wk,wn,wx⟩,wl,we⟩:=W
    simp only at hO hlt
    simp[go_sem,RO.run,r1,hKe,hKe']
    refine htk.use fun s3 x3=> ?_
    have y3:=y2.trans x3
    have hg3:=x3.get y2.wf hg2
    have hg3r:=x3.get y2.wf g2
    have x4:=Ext.new y3.wf (.cells 134 true [.int .i64 wk,.int .i64 wn,.str wx])
    have y4:=y3.trans x4
    have hg4:=x4.get y3.wf hg3
    have hg4r:=x4.get y3.wf hg3r
    have hz:Z1 ((s3.nx,Z7.cells 134 true [.int .i64 wk,.int .i64 wn,.str wx])::s3.h) s3.nx 0 3=some [.int .i64 wk,.int .i64 wn,.str wx]:=K5 _ _ _ _ _ _ _
    have y5:=y4.trans (Ext.aside y4.wf 13)
    simp only[Nat.add_assoc,Nat.reduceAdd]at y5
    have hg5:Zh (⟨(s3.nx,Z7.cells 134 true [.int .i64 wk,.int .i64 wn,.str wx])::s3.h,s3.nx+14⟩:St).h st.nx=some (.cells 134 true [.int .i64 0,.int .i64 0,.str []]):=hg4
    obtain⟨k1,k2,k3⟩:=L4 (st:=st) y5 hg5 O
    have p1:Zo ((s3.nx,Z7.cells 134 true [.int .i64 wk,.int .i64 wn,.str wx])::s3.h) (st.nx+1) 1=some (.int .i64 (K:Int)):=by simp only[Zo];rw[hg4r];rfl
    have hne:st.nx≠st.nx+1:=by omega
    have p2:Zo (Qi ((s3.nx,Z7.cells 134 true [.int .i64 wk,.int .i64 wn,.str wx])::s3.h) st.nx (.cells 134 true [.int .i64 wk,.int .i64 wn,.str wx])) (st.nx+1) 1=some (.int .i64 (K:Int)):=by
     simp only[Zo]
     rw[Zl hg4 hne,hg4r];rfl
    obtain⟨z,hzz⟩:∃z:Nat,z=K+wl:=⟨_,rfl⟩
    have ez:IntKind.i64.wrap ((K:Int)+(wl:Int))=(z:Int):=by rw[Zf (by omega) (by omega)];omega
    rw[←hzz]at hO
    subst hO
    simp only at k1 k2 k3
    simp[go_sem,tk3,NO.run,WO.run,RO.run,Vo,hz,p1,reI,p2,k1]
    refine⟨rfl,?_⟩
    simp[go_sem,ez,WO.run,Zg,Zm,Zr,RO.run,k2,tk3,k3]
end Go.Ev

/- The reference's token. -/
namespace Go.Ev
open Go
variable {T : Tab} {st : St}
def okT (t:T3):Prop:=t.2.2=0∨t=Qt t.2.2
theorem Gi (e:Int):okT (Qt e):= .inr rfl
theorem Bj (k:Int) (x:List UInt8) (n:Nat):okT (Xd k x n):=by
 unfold Xd
 split
 ·exact Gi _
 ·split
  ·exact .inl rfl
  ·exact Gi _
theorem Zaao (s:List UInt8):okT (Hc s):=by
 cases s with
 | nil=>exact Gi _
 | cons c R=>
   have hf:∀k l,okT (Zcg k l R):=fun k l=>by
    unfold Zcg
    split
    ·exact Gi _
    ·exact .inl rfl
   have hcn:∀k l,okT (Dc k l R):=fun k l=>by
    unfold Dc
    split
    ·exact Gi _
    ·split
     ·exact Gi _
     ·exact Bj _ _ _
   have hde:∀(f:Nat) (u:List UInt8×Nat×Int),okT (Pg f u):=fun f u=>by
    unfold Pg
    split
    ·exact Bj _ _ _
    ·split <;> exact Gi _
   simp only[Hc]
   split
   ·unfold O3
    split
    ·exact Bj _ _ _
    ·split <;> exact Gi _
   split
   ·exact Gi _
   split
   ·exact .inl rfl
   split
   ·exact .inl rfl
   split
   ·exact Bj _ _ _
   split
   ·unfold Zev
    split
    ·exact Bj _ _ _
    ·split <;> exact hde _ _
   split
   ·unfold De
    split
    ·exact Bj _ _ _
    ·exact Gi _
   split
   ·unfold Pa
    split <;> exact Bj _ _ _
   split
   ·unfold Zay
    (repeat' split) <;> first | exact hf _ _ | exact hcn _ _ | exact Gi _
   ·unfold Zhh
    split
    ·exact Gi _
    ·exact .inl rfl
def Zr6 (R:List UInt8):UInt8:=match R with
 | []=>0
 | d::_=>d
theorem Zfc (R:List UInt8) (k:UInt8) (hk:k≠0):(R.head? =some k)↔Zr6 R=k:=by
 cases R with
 | nil=>simp[Zr6];exact fun h=>hk h.symm
 | cons d r=>simp[Zr6]
set_option maxHeartbeats 2000000 in
theorem rt40 (H:B.Je T) {s3:St} (hx:Ext st s3) (hg:Zh s3.h st.nx=some (.cells 134 true [.int .i64 0,.int .i64 0,.str []])) {i:Nat} {s:List UInt8} (hs:s.length≤65536) (hi:i<s.length) {c:UInt8} (hc:s[i]? =some c) {R:List UInt8} (hR:R=s.drop (i+1)) (hRl:R.length=s.length - (i+1)) (hd:s.drop i=c::R) {O:T3} (hO:O=shift i (Hc (c::R)))
  {e3:Env} (g0:Zb e3 0= .str s) (g1:Zb e3 1= .int .i64 (i:Int)) (g4:Zb e3 4= .ptr st.nx 0) {D C:Int} (g7:Zb e3 7= .int .u8 D) (t60:R.head? =some 60↔D=60) (t62:R.head? =some 62↔D=62) (t126:R.head? =some 126↔D=126) (t47:R.head? =some 47↔D=47) (hC:C=(c.toNat:Int)) (hcn:∀n:UInt8,c=n↔C=n.toNat) (h40:c=40):
  Res (run T B.Zv.body.b.b.b e3 s3) fun x e s=>(x= .norm∨x= .ret)∧Zg s.h e B.Zv.results=some (tk3 O)∧Ext st s:=by
 simp only[B.Zv,Qq]
 have e0:c.toNat=C.toNat:=by omega
 have stop:∀(s5:St) (t:T3),Ext s3 s5→O=t→Z5 s5.h st.nx 0 [.int .i64 t.1.1,.int .i64 t.1.2.1,.str t.1.2.2]=some (Qi s5.h st.nx (.cells 134 true [.int .i64 t.1.1,.int .i64 t.1.2.1,.str t.1.2.2]))∧
   Z1 (Qi s5.h st.nx (.cells 134 true [.int .i64 t.1.1,.int .i64 t.1.2.1,.str t.1.2.2])) st.nx 0 3=some [.int .i64 t.1.1,.int .i64 t.1.2.1,.str t.1.2.2]∧Ext st ⟨Qi s5.h st.nx (.cells 134 true [.int .i64 t.1.1,.int .i64 t.1.2.1,.str t.1.2.2]),s5.nx⟩:=fun s5 t x5 _=>
  L4 (hx.trans x5) (x5.get hx.wf hg) t
 have hres:B.Zv.results=[.cell 4 (some 3),.t 5,.t 6]:=rfl
 have hsub0:Q6 s (some (.int .i64 (i:Int))) none=some (.str (s.drop i)):=by rw[Qp (by omega) (by omega)];simp
 obtain⟨w1,hw1⟩:∃w:Nat,w=i+1:=⟨_,rfl⟩
 obtain⟨w2,hw2⟩:∃w:Nat,w=i+2:=⟨_,rfl⟩
 have ek1:IntKind.i64.wrap ((i:Int)+1)=(w1:Int):=by rw[Zf (by omega) (by omega)];omega
 have ek2:IntKind.i64.wrap ((i:Int)+2)=(w2:Int):=by rw[Zf (by omega) (by omega)];omega
 have hsub1:Q6 s (some (.int .i64 (w1:Int))) none=some (.str R):=by rw[Qp (by omega) (by omega),hR,show (w1:Int).toNat=i+1 by omega]
 have hsubc:Q6 s (some (.int .i64 (i:Int))) (some (.int .i64 (w1:Int)))=some (.str [c]):=by
  rw[J6 (by omega) (by omega) (by omega),show (i:Int).toNat=i by omega,show (w1:Int).toNat - i=1 by omega,hd];rfl
 have hnm:=fun(k:Int) (x:List UInt8) (n:Nat) (h:x.length<1000000000000)=>Js (st:=s3) H.Qn hx.wf (k:=k) (x:=x) (n:=n) h
 have hC40:C=40:=(hcn 40).1 h40
 rw[Hc,if_pos h40,←hd]at hO
 unfold O3 at hO
 have hle:=Zaf (s.drop i)
 rw[List.length_drop]at hle
 have hun:=fun(st':St) (hw:st'.Wf)=>Zf9 (st:=st') H.Vd hw (s:=s.drop i) (by simp;omega)
 have hue:(J1 (s.drop i)).2.2=0∨(J1 (s.drop i)).2.2=26∨(J1 (s.drop i)).2.2=5:=by
  unfold J1
  split
  ·split
   ·split
    ·simp
    ·split <;> simp
   ·simp
  ·simp
 generalize J1 (s.drop i)=u at*
 obtain⟨x,n,e⟩:=u
 simp only at hO hle hue
 simp[go_sem,g0,g1,g4,g7,hc,←hC,hC40,hsub0]
 refine(hun _ hx.wf).use fun s5 x5=> ?_
 rcases hue with rfl | rfl | rfl
 ·rw[if_pos rfl,Md]at hO
  obtain⟨z,hz⟩:∃z:Nat,z=i+n:=⟨_,rfl⟩
  have ez:IntKind.i64.wrap ((i:Int)+(n:Int))=(z:Int):=by rw[Zf (by omega) (by omega)];omega
  rw[←hz]at hO
  simp[go_sem,Rx,ez]
  refine(Js H.Qn (hx.trans x5).wf (k:=6) (x:=x) (n:=z) (by omega)).use fun s6 x6=> ?_
  obtain⟨k1,k2,k3⟩:=stop s6 _ (x5.trans x6) hO
  rw[hO]
  simp[go_sem,k1,WO.run,Zg,Zm,Zr,RO.run,k2,tk3,k3,hres]
 ·rw[if_neg (by decide),if_pos rfl,Wu _ _ (by decide)]at hO
  obtain⟨k1,k2,k3⟩:=stop s5 _ x5 hO
  simp only[Qt]at k1 k2 k3
  rw[hO]
  simp[go_sem,Rx,k1,WO.run,Zg,Zm,Zr,RO.run,k2,tk3,Qt,k3,hres]
 ·rw[if_neg (by decide),if_neg (by decide),Wu _ _ (by decide)]at hO
  obtain⟨k1,k2,k3⟩:=stop s5 _ x5 hO
  simp only[Qt]at k1 k2 k3
  rw[hO]
  simp[go_sem,Rx,k1,WO.run,Zg,Zm,Zr,RO.run,k2,tk3,Qt,k3,hres]
set_option maxHeartbeats 2000000 in
theorem Zaaa (H:B.Je T) {s3:St} (hx:Ext st s3) (hg:Zh s3.h st.nx=some (.cells 134 true [.int .i64 0,.int .i64 0,.str []])) {i:Nat} {s:List UInt8} (hs:s.length≤65536) (hi:i<s.length) {c:UInt8} (hc:s[i]? =some c) {R:List UInt8} (hR:R=s.drop (i+1)) (hRl:R.length=s.length - (i+1)) (hd:s.drop i=c::R) {O:T3} (hO:O=shift i (if c=41 then Qt 37 else if c=123 then((7,0,[]),1,0)else if c=125 then((8,0,[]),1,0)else if c=91∨c=93 then Xd 3 [c] 1 else Qt 37))
  {e3:Env} (g0:Zb e3 0= .str s) (g1:Zb e3 1= .int .i64 (i:Int)) (g4:Zb e3 4= .ptr st.nx 0) {D C:Int} (g7:Zb e3 7= .int .u8 D) (t60:R.head? =some 60↔D=60) (t62:R.head? =some 62↔D=62) (t126:R.head? =some 126↔D=126) (t47:R.head? =some 47↔D=47) (hC:C=(c.toNat:Int)) (hcn:∀n:UInt8,c=n↔C=n.toNat) (h40:¬c=40) (hsm:c=41∨c=123∨c=125∨c=91∨c=93):
  Res (run T B.Zv.body.b.b.b e3 s3) fun x e s=>(x= .norm∨x= .ret)∧Zg s.h e B.Zv.results=some (tk3 O)∧Ext st s:=by
 simp only[B.Zv,Qq]
 have e0:c.toNat=C.toNat:=by omega
 have stop:∀(s5:St) (t:T3),Ext s3 s5→O=t→Z5 s5.h st.nx 0 [.int .i64 t.1.1,.int .i64 t.1.2.1,.str t.1.2.2]=some (Qi s5.h st.nx (.cells 134 true [.int .i64 t.1.1,.int .i64 t.1.2.1,.str t.1.2.2]))∧
   Z1 (Qi s5.h st.nx (.cells 134 true [.int .i64 t.1.1,.int .i64 t.1.2.1,.str t.1.2.2])) st.nx 0 3=some [.int .i64 t.1.1,.int .i64 t.1.2.1,.str t.1.2.2]∧Ext st ⟨Qi s5.h st.nx (.cells 134 true [.int .i64 t.1.1,.int .i64 t.1.2.1,.str t.1.2.2]),s5.nx⟩:=fun s5 t x5 _=>
  L4 (hx.trans x5) (x5.get hx.wf hg) t
 have hres:B.Zv.results=[.cell 4 (some 3),.t 5,.t 6]:=rfl
 have hsub0:Q6 s (some (.int .i64 (i:Int))) none=some (.str (s.drop i)):=by rw[Qp (by omega) (by omega)];simp
 obtain⟨w1,hw1⟩:∃w:Nat,w=i+1:=⟨_,rfl⟩
 obtain⟨w2,hw2⟩:∃w:Nat,w=i+2:=⟨_,rfl⟩
 have ek1:IntKind.i64.wrap ((i:Int)+1)=(w1:Int):=by rw[Zf (by omega) (by omega)];omega
 have ek2:IntKind.i64.wrap ((i:Int)+2)=(w2:Int):=by rw[Zf (by omega) (by omega)];omega
 have hsub1:Q6 s (some (.int .i64 (w1:Int))) none=some (.str R):=by rw[Qp (by omega) (by omega),hR,show (w1:Int).toNat=i+1 by omega]
 have hsubc:Q6 s (some (.int .i64 (i:Int))) (some (.int .i64 (w1:Int)))=some (.str [c]):=by
  rw[J6 (by omega) (by omega) (by omega),show (i:Int).toNat=i by omega,show (w1:Int).toNat - i=1 by omega,hd];rfl
 have hnm:=fun(k:Int) (x:List UInt8) (n:Nat) (h:x.length<1000000000000)=>Js (st:=s3) H.Qn hx.wf (k:=k) (x:=x) (n:=n) h
 have n40:¬C=40:=fun h=>h40 ((hcn 40).2 h)
 by_cases h123:c=123
 ·have hCC:C=123:=(hcn 123).1 h123
  rw[if_neg (by rw[h123];decide),if_pos h123]at hO
  have hO2:O=((7,0,[]),w1,0):=by rw[hO,hw1];rfl
  obtain⟨k1,k2,k3⟩:=stop s3 _ (.refl hx.wf) hO2
  simp only at k1 k2 k3
  rw[hO2]
  simp[go_sem,g0,g1,g4,g7,hc,←hC,hCC,ek1,k1,WO.run,Zg,Zm,Zr,RO.run,k2,tk3,k3,hres]
 have n123:¬C=123:=fun h=>h123 ((hcn 123).2 h)
 by_cases h125:c=125
 ·have hCC:C=125:=(hcn 125).1 h125
  rw[if_neg (by rw[h125];decide),if_neg h123,if_pos h125]at hO
  have hO2:O=((8,0,[]),w1,0):=by rw[hO,hw1];rfl
  obtain⟨k1,k2,k3⟩:=stop s3 _ (.refl hx.wf) hO2
  simp only at k1 k2 k3
  rw[hO2]
  simp[go_sem,g0,g1,g4,g7,hc,←hC,hCC,ek1,k1,WO.run,Zg,Zm,Zr,RO.run,k2,tk3,k3,hres]
 have n125:¬C=125:=fun h=>h125 ((hcn 125).2 h)
 by_cases h9:c=91∨c=93
 ·have hCC:C=91∨C=93:=h9.imp (hcn 91).1 (hcn 93).1
  rw[if_neg (by rcases h9 with h | h <;> rw[h] <;> decide),if_neg h123,if_neg h125,if_pos h9,Md,←hw1]at hO
  have hn1:=hnm 3 [c] w1 (by simp)
  rw[←hO]at hn1
  rcases hCC with hCC | hCC
  ·simp[go_sem,g0,g1,g4,g7,hc,←hC,hCC,ek1,hsubc]
   refine hn1.use fun s5 x5=> ?_
   obtain⟨k1,k2,k3⟩:=stop s5 O x5 rfl
   simp[go_sem,k1,WO.run,Zg,Zm,Zr,RO.run,k2,tk3,k3,hres]
  ·simp[go_sem,g0,g1,g4,g7,hc,←hC,hCC,ek1,hsubc]
   refine hn1.use fun s5 x5=> ?_
   obtain⟨k1,k2,k3⟩:=stop s5 O x5 rfl
   simp[go_sem,k1,WO.run,Zg,Zm,Zr,RO.run,k2,tk3,k3,hres]
 have n91:¬C=91:=fun h=>h9 (.inl ((hcn 91).2 h))
 have n93:¬C=93:=fun h=>h9 (.inr ((hcn 93).2 h))
 by_cases h41:c=41
 ·have hCC:C=41:=(hcn 41).1 h41
  rw[if_pos h41,Wu _ _ (by decide)]at hO
  obtain⟨k1,k2,k3⟩:=stop s3 _ (.refl hx.wf) hO
  simp only[Qt]at k1 k2 k3
  rw[hO]
  simp[go_sem,g0,g1,g4,g7,hc,←hC,hCC,k1,WO.run,Zg,Zm,Zr,RO.run,k2,tk3,Qt,k3,hres]
 have n41:¬C=41:=fun h=>h41 ((hcn 41).2 h)
 exfalso
 rcases hsm with h | h | h | h
 ·exact h41 h
 ·exact h123 h
 ·exact h125 h
 ·exact h9 h
set_option maxHeartbeats 2000000 in
theorem rt60 (H:B.Je T) {s3:St} (hx:Ext st s3) (hg:Zh s3.h st.nx=some (.cells 134 true [.int .i64 0,.int .i64 0,.str []])) {i:Nat} {s:List UInt8} (hs:s.length≤65536) (hi:i<s.length) {c:UInt8} (hc:s[i]? =some c) {R:List UInt8} (hR:R=s.drop (i+1)) (hRl:R.length=s.length - (i+1)) (hd:s.drop i=c::R) {O:T3} (hO:O=shift i (Zev R))
  {e3:Env} (g0:Zb e3 0= .str s) (g1:Zb e3 1= .int .i64 (i:Int)) (g4:Zb e3 4= .ptr st.nx 0) {D C:Int} (g7:Zb e3 7= .int .u8 D) (t60:R.head? =some 60↔D=60) (t62:R.head? =some 62↔D=62) (t126:R.head? =some 126↔D=126) (t47:R.head? =some 47↔D=47) (hC:C=(c.toNat:Int)) (hcn:∀n:UInt8,c=n↔C=n.toNat) (n40:¬C=40) (n123:¬C=123) (n125:¬C=125) (n91:¬C=91) (n93:¬C=93) (n41:¬C=41) (h60:c=60):
  Res (run T B.Zv.body.b.b.b e3 s3) fun x e s=>(x= .norm∨x= .ret)∧Zg s.h e B.Zv.results=some (tk3 O)∧Ext st s:=by
 simp only[B.Zv,Qq]
 have e0:c.toNat=C.toNat:=by omega
 have stop:∀(s5:St) (t:T3),Ext s3 s5→O=t→Z5 s5.h st.nx 0 [.int .i64 t.1.1,.int .i64 t.1.2.1,.str t.1.2.2]=some (Qi s5.h st.nx (.cells 134 true [.int .i64 t.1.1,.int .i64 t.1.2.1,.str t.1.2.2]))∧
   Z1 (Qi s5.h st.nx (.cells 134 true [.int .i64 t.1.1,.int .i64 t.1.2.1,.str t.1.2.2])) st.nx 0 3=some [.int .i64 t.1.1,.int .i64 t.1.2.1,.str t.1.2.2]∧Ext st ⟨Qi s5.h st.nx (.cells 134 true [.int .i64 t.1.1,.int .i64 t.1.2.1,.str t.1.2.2]),s5.nx⟩:=fun s5 t x5 _=>
  L4 (hx.trans x5) (x5.get hx.wf hg) t
 have hres:B.Zv.results=[.cell 4 (some 3),.t 5,.t 6]:=rfl
 have hsub0:Q6 s (some (.int .i64 (i:Int))) none=some (.str (s.drop i)):=by rw[Qp (by omega) (by omega)];simp
 obtain⟨w1,hw1⟩:∃w:Nat,w=i+1:=⟨_,rfl⟩
 obtain⟨w2,hw2⟩:∃w:Nat,w=i+2:=⟨_,rfl⟩
 have ek1:IntKind.i64.wrap ((i:Int)+1)=(w1:Int):=by rw[Zf (by omega) (by omega)];omega
 have ek2:IntKind.i64.wrap ((i:Int)+2)=(w2:Int):=by rw[Zf (by omega) (by omega)];omega
 have hsub1:Q6 s (some (.int .i64 (w1:Int))) none=some (.str R):=by rw[Qp (by omega) (by omega),hR,show (w1:Int).toNat=i+1 by omega]
 have hsubc:Q6 s (some (.int .i64 (i:Int))) (some (.int .i64 (w1:Int)))=some (.str [c]):=by
  rw[J6 (by omega) (by omega) (by omega),show (i:Int).toNat=i by omega,show (w1:Int).toNat - i=1 by omega,hd];rfl
 have hnm:=fun(k:Int) (x:List UInt8) (n:Nat) (h:x.length<1000000000000)=>Js (st:=s3) H.Qn hx.wf (k:=k) (x:=x) (n:=n) h
 have hpair:∀k:UInt8,c=k→(R.head? =some k)→w2≤s.length∧Q6 s (some (.int .i64 (i:Int))) (some (.int .i64 (w2:Int)))=some (.str [k,k]):=by
  intro k h1 h2
  cases hRR:R with
  | nil=>rw[hRR]at h2;simp at h2
  | cons d r=>
    rw[hRR]at h2 hRl hd
    simp at h2 hRl
    refine⟨by omega,?_⟩
    rw[J6 (by omega) (by omega) (by omega),show (i:Int).toNat=i by omega,show (w2:Int).toNat - i=2 by omega,hd,h1,h2];rfl
 have hdrop1:∀k:UInt8,R.head? =some k→Q6 s (some (.int .i64 (w2:Int))) none=some (.str (R.drop 1)):=by
  intro k h2
  cases hRR:R with
  | nil=>rw[hRR]at h2;simp at h2
  | cons d r=>
    rw[hRR]at hRl
    simp at hRl
    rw[←hRR,Qp (by omega) (by omega),hR,List.drop_drop,show (w2:Int).toNat=i+1+1 by omega]
 have hCC:C=60:=(hcn 60).1 h60
 unfold Zev at hO
 by_cases hh60:R.head? =some 60
 ·have hDD:D=60:=t60.1 hh60
  obtain⟨hl2,hs2⟩:=hpair 60 h60 hh60
  rw[if_pos hh60,Md,←hw2]at hO
  have hn1:=hnm 3 [60,60] w2 (by simp)
  rw[←hO]at hn1
  simp[go_sem,g0,g1,g4,g7,hc,←hC,hCC,hDD,ek2,hs2]
  refine hn1.use fun s5 x5=> ?_
  obtain⟨k1,k2,k3⟩:=stop s5 O x5 rfl
  simp[go_sem,k1,WO.run,Zg,Zm,Zr,RO.run,k2,tk3,k3,hres]
 rw[if_neg hh60]at hO
 have nD60:¬D=60:=fun h=>hh60 (t60.2 h)
 by_cases hh126:R.head? =some 126
 ·have hDD:D=126:=t126.1 hh126
  have hs2:=hdrop1 126 hh126
  rw[if_pos hh126]at hO
  unfold Pg at hO
  have hle:=Znk (R.drop 1)
  have hue:(Zdv (R.drop 1)).2.2=0∨(Zdv (R.drop 1)).2.2=3∨(Zdv (R.drop 1)).2.2=5:=by
   unfold Zdv Po
   split
   ·simp
   ·split
    ·simp
    ·split <;> simp
  have hdl:(R.drop 1).length≤s.length:=by rw[List.length_drop];omega
  have hcall:=Ze5 H.Kn hx.wf (s:=R.drop 1) (by omega)
  generalize Zdv (R.drop 1)=u at*
  generalize R.drop 1=DD at*
  obtain⟨x,n,e⟩:=u
  simp only at hO hle hue
  simp[go_sem,g0,g1,g4,g7,hc,←hC,hCC,hDD,ek2,hs2]
  refine hcall.use fun s5 x5=> ?_
  rcases hue with rfl | rfl | rfl
  ·rw[if_pos rfl,Md]at hO
   obtain⟨z,hz⟩:∃z:Nat,z=i+(2+n):=⟨_,rfl⟩
   have ez:IntKind.i64.wrap ((w2:Int)+(n:Int))=(z:Int):=by rw[Zf (by omega) (by omega)];omega
   rw[←hz]at hO
   simp[go_sem,Rx,ek2,ez]
   refine(Js H.Qn (hx.trans x5).wf (k:=6) (x:=x) (n:=z) (by omega)).use fun s6 x6=> ?_
   obtain⟨k1,k2,k3⟩:=stop s6 _ (x5.trans x6) hO
   rw[hO]
   simp[go_sem,k1,WO.run,Zg,Zm,Zr,RO.run,k2,tk3,k3,hres]
  ·rw[if_neg (by decide),if_pos rfl,Wu _ _ (by decide)]at hO
   obtain⟨k1,k2,k3⟩:=stop s5 _ x5 hO
   simp only[Qt]at k1 k2 k3
   rw[hO]
   simp[go_sem,Rx,k1,WO.run,Zg,Zm,Zr,RO.run,k2,tk3,Qt,k3,hres]
  ·rw[if_neg (by decide),if_neg (by decide),Wu _ _ (by decide)]at hO
   obtain⟨k1,k2,k3⟩:=stop s5 _ x5 hO
   simp only[Qt]at k1 k2 k3
   rw[hO]
   simp[go_sem,Rx,k1,WO.run,Zg,Zm,Zr,RO.run,k2,tk3,Qt,k3,hres]
 ·have nD126:¬D=126:=fun h=>hh126 (t126.2 h)
  rw[if_neg hh126]at hO
  unfold Pg at hO
  have hle:=Zoa R
  have hue:(Zea R).2.2=0∨(Zea R).2.2=5:=by
   have hRs:¬65536<R.length:=by omega
   unfold Zea
   rw[if_neg hRs]
   split <;> simp
  have hcall:=Zkj H.Vb hx.wf (s:=R) (by omega)
  generalize Zea R=u at*
  obtain⟨x,n,e⟩:=u
  simp only at hO hle hue
  simp[go_sem,g0,g1,g4,g7,hc,←hC,hCC,nD60,nD126,ek1,hsub1]
  refine hcall.use fun s5 x5=> ?_
  rcases hue with rfl | rfl
  ·rw[if_pos rfl,Md]at hO
   obtain⟨z,hz⟩:∃z:Nat,z=i+(1+n):=⟨_,rfl⟩
   have ez:IntKind.i64.wrap ((w1:Int)+(n:Int))=(z:Int):=by rw[Zf (by omega) (by omega)];omega
   rw[←hz]at hO
   simp[go_sem,Rx,ek1,ez]
   refine(Js H.Qn (hx.trans x5).wf (k:=6) (x:=x) (n:=z) (by omega)).use fun s6 x6=> ?_
   obtain⟨k1,k2,k3⟩:=stop s6 _ (x5.trans x6) hO
   rw[hO]
   simp[go_sem,k1,WO.run,Zg,Zm,Zr,RO.run,k2,tk3,k3,hres]
  ·rw[if_neg (by decide),if_neg (by decide),Wu _ _ (by decide)]at hO
   obtain⟨k1,k2,k3⟩:=stop s5 _ x5 hO
   simp only[Qt]at k1 k2 k3
   rw[hO]
   simp[go_sem,Rx,k1,WO.run,Zg,Zm,Zr,RO.run,k2,tk3,Qt,k3,hres]
set_option maxHeartbeats 2000000 in
theorem rt62 (H:B.Je T) {s3:St} (hx:Ext st s3) (hg:Zh s3.h st.nx=some (.cells 134 true [.int .i64 0,.int .i64 0,.str []])) {i:Nat} {s:List UInt8} (hs:s.length≤65536) (hi:i<s.length) {c:UInt8} (hc:s[i]? =some c) {R:List UInt8} (hR:R=s.drop (i+1)) (hRl:R.length=s.length - (i+1)) (hd:s.drop i=c::R) {O:T3} (hO:O=shift i (De R))
  {e3:Env} (g0:Zb e3 0= .str s) (g1:Zb e3 1= .int .i64 (i:Int)) (g4:Zb e3 4= .ptr st.nx 0) {D C:Int} (g7:Zb e3 7= .int .u8 D) (t60:R.head? =some 60↔D=60) (t62:R.head? =some 62↔D=62) (t126:R.head? =some 126↔D=126) (t47:R.head? =some 47↔D=47) (hC:C=(c.toNat:Int)) (hcn:∀n:UInt8,c=n↔C=n.toNat) (n40:¬C=40) (n123:¬C=123) (n125:¬C=125) (n91:¬C=91) (n93:¬C=93) (n41:¬C=41) (n60:¬C=60) (h62:c=62):
  Res (run T B.Zv.body.b.b.b e3 s3) fun x e s=>(x= .norm∨x= .ret)∧Zg s.h e B.Zv.results=some (tk3 O)∧Ext st s:=by
 simp only[B.Zv,Qq]
 have e0:c.toNat=C.toNat:=by omega
 have stop:∀(s5:St) (t:T3),Ext s3 s5→O=t→Z5 s5.h st.nx 0 [.int .i64 t.1.1,.int .i64 t.1.2.1,.str t.1.2.2]=some (Qi s5.h st.nx (.cells 134 true [.int .i64 t.1.1,.int .i64 t.1.2.1,.str t.1.2.2]))∧
   Z1 (Qi s5.h st.nx (.cells 134 true [.int .i64 t.1.1,.int .i64 t.1.2.1,.str t.1.2.2])) st.nx 0 3=some [.int .i64 t.1.1,.int .i64 t.1.2.1,.str t.1.2.2]∧Ext st ⟨Qi s5.h st.nx (.cells 134 true [.int .i64 t.1.1,.int .i64 t.1.2.1,.str t.1.2.2]),s5.nx⟩:=fun s5 t x5 _=>
  L4 (hx.trans x5) (x5.get hx.wf hg) t
 have hres:B.Zv.results=[.cell 4 (some 3),.t 5,.t 6]:=rfl
 have hsub0:Q6 s (some (.int .i64 (i:Int))) none=some (.str (s.drop i)):=by rw[Qp (by omega) (by omega)];simp
 obtain⟨w1,hw1⟩:∃w:Nat,w=i+1:=⟨_,rfl⟩
 obtain⟨w2,hw2⟩:∃w:Nat,w=i+2:=⟨_,rfl⟩
 have ek1:IntKind.i64.wrap ((i:Int)+1)=(w1:Int):=by rw[Zf (by omega) (by omega)];omega
 have ek2:IntKind.i64.wrap ((i:Int)+2)=(w2:Int):=by rw[Zf (by omega) (by omega)];omega
 have hsub1:Q6 s (some (.int .i64 (w1:Int))) none=some (.str R):=by rw[Qp (by omega) (by omega),hR,show (w1:Int).toNat=i+1 by omega]
 have hsubc:Q6 s (some (.int .i64 (i:Int))) (some (.int .i64 (w1:Int)))=some (.str [c]):=by
  rw[J6 (by omega) (by omega) (by omega),show (i:Int).toNat=i by omega,show (w1:Int).toNat - i=1 by omega,hd];rfl
 have hnm:=fun(k:Int) (x:List UInt8) (n:Nat) (h:x.length<1000000000000)=>Js (st:=s3) H.Qn hx.wf (k:=k) (x:=x) (n:=n) h
 have hpair:∀k:UInt8,c=k→(R.head? =some k)→w2≤s.length∧Q6 s (some (.int .i64 (i:Int))) (some (.int .i64 (w2:Int)))=some (.str [k,k]):=by
  intro k h1 h2
  cases hRR:R with
  | nil=>rw[hRR]at h2;simp at h2
  | cons d r=>
    rw[hRR]at h2 hRl hd
    simp at h2 hRl
    refine⟨by omega,?_⟩
    rw[J6 (by omega) (by omega) (by omega),show (i:Int).toNat=i by omega,show (w2:Int).toNat - i=2 by omega,hd,h1,h2];rfl
 have hdrop1:∀k:UInt8,R.head? =some k→Q6 s (some (.int .i64 (w2:Int))) none=some (.str (R.drop 1)):=by
  intro k h2
  cases hRR:R with
  | nil=>rw[hRR]at h2;simp at h2
  | cons d r=>
    rw[hRR]at hRl
    simp at hRl
    rw[←hRR,Qp (by omega) (by omega),hR,List.drop_drop,show (w2:Int).toNat=i+1+1 by omega]
 have hCC:C=62:=(hcn 62).1 h62
 unfold De at hO
 by_cases hh62:R.head? =some 62
 ·have hDD:D=62:=t62.1 hh62
  obtain⟨hl2,hs2⟩:=hpair 62 h62 hh62
  rw[if_pos hh62,Md,←hw2]at hO
  have hn1:=hnm 3 [62,62] w2 (by simp)
  rw[←hO]at hn1
  simp[go_sem,g0,g1,g4,g7,hc,←hC,hCC,hDD,ek2,hs2]
  refine hn1.use fun s5 x5=> ?_
  obtain⟨k1,k2,k3⟩:=stop s5 O x5 rfl
  simp[go_sem,k1,WO.run,Zg,Zm,Zr,RO.run,k2,tk3,k3,hres]
 ·have nD62:¬D=62:=fun h=>hh62 (t62.2 h)
  rw[if_neg hh62,Wu _ _ (by decide)]at hO
  obtain⟨k1,k2,k3⟩:=stop s3 _ (.refl hx.wf) hO
  simp only[Qt]at k1 k2 k3
  rw[hO]
  simp[go_sem,g0,g1,g4,g7,hc,←hC,hCC,nD62,k1,WO.run,Zg,Zm,Zr,RO.run,k2,tk3,Qt,k3,hres]
set_option maxHeartbeats 2000000 in
theorem rt47 (H:B.Je T) {s3:St} (hx:Ext st s3) (hg:Zh s3.h st.nx=some (.cells 134 true [.int .i64 0,.int .i64 0,.str []])) {i:Nat} {s:List UInt8} (hs:s.length≤65536) (hi:i<s.length) {c:UInt8} (hc:s[i]? =some c) {R:List UInt8} (hR:R=s.drop (i+1)) (hRl:R.length=s.length - (i+1)) (hd:s.drop i=c::R) {O:T3} (hO:O=shift i (Pa R))
  {e3:Env} (g0:Zb e3 0= .str s) (g1:Zb e3 1= .int .i64 (i:Int)) (g4:Zb e3 4= .ptr st.nx 0) {D C:Int} (g7:Zb e3 7= .int .u8 D) (t60:R.head? =some 60↔D=60) (t62:R.head? =some 62↔D=62) (t126:R.head? =some 126↔D=126) (t47:R.head? =some 47↔D=47) (hC:C=(c.toNat:Int)) (hcn:∀n:UInt8,c=n↔C=n.toNat) (n40:¬C=40) (n123:¬C=123) (n125:¬C=125) (n91:¬C=91) (n93:¬C=93) (n41:¬C=41) (n60:¬C=60) (n62:¬C=62) (h47:c=47):
  Res (run T B.Zv.body.b.b.b e3 s3) fun x e s=>(x= .norm∨x= .ret)∧Zg s.h e B.Zv.results=some (tk3 O)∧Ext st s:=by
 simp only[B.Zv,Qq]
 have e0:c.toNat=C.toNat:=by omega
 have stop:∀(s5:St) (t:T3),Ext s3 s5→O=t→Z5 s5.h st.nx 0 [.int .i64 t.1.1,.int .i64 t.1.2.1,.str t.1.2.2]=some (Qi s5.h st.nx (.cells 134 true [.int .i64 t.1.1,.int .i64 t.1.2.1,.str t.1.2.2]))∧
   Z1 (Qi s5.h st.nx (.cells 134 true [.int .i64 t.1.1,.int .i64 t.1.2.1,.str t.1.2.2])) st.nx 0 3=some [.int .i64 t.1.1,.int .i64 t.1.2.1,.str t.1.2.2]∧Ext st ⟨Qi s5.h st.nx (.cells 134 true [.int .i64 t.1.1,.int .i64 t.1.2.1,.str t.1.2.2]),s5.nx⟩:=fun s5 t x5 _=>
  L4 (hx.trans x5) (x5.get hx.wf hg) t
 have hres:B.Zv.results=[.cell 4 (some 3),.t 5,.t 6]:=rfl
 have hsub0:Q6 s (some (.int .i64 (i:Int))) none=some (.str (s.drop i)):=by rw[Qp (by omega) (by omega)];simp
 obtain⟨w1,hw1⟩:∃w:Nat,w=i+1:=⟨_,rfl⟩
 obtain⟨w2,hw2⟩:∃w:Nat,w=i+2:=⟨_,rfl⟩
 have ek1:IntKind.i64.wrap ((i:Int)+1)=(w1:Int):=by rw[Zf (by omega) (by omega)];omega
 have ek2:IntKind.i64.wrap ((i:Int)+2)=(w2:Int):=by rw[Zf (by omega) (by omega)];omega
 have hsub1:Q6 s (some (.int .i64 (w1:Int))) none=some (.str R):=by rw[Qp (by omega) (by omega),hR,show (w1:Int).toNat=i+1 by omega]
 have hsubc:Q6 s (some (.int .i64 (i:Int))) (some (.int .i64 (w1:Int)))=some (.str [c]):=by
  rw[J6 (by omega) (by omega) (by omega),show (i:Int).toNat=i by omega,show (w1:Int).toNat - i=1 by omega,hd];rfl
 have hnm:=fun(k:Int) (x:List UInt8) (n:Nat) (h:x.length<1000000000000)=>Js (st:=s3) H.Qn hx.wf (k:=k) (x:=x) (n:=n) h
 have hpair:∀k:UInt8,c=k→(R.head? =some k)→w2≤s.length∧Q6 s (some (.int .i64 (i:Int))) (some (.int .i64 (w2:Int)))=some (.str [k,k]):=by
  intro k h1 h2
  cases hRR:R with
  | nil=>rw[hRR]at h2;simp at h2
  | cons d r=>
    rw[hRR]at h2 hRl hd
    simp at h2 hRl
    refine⟨by omega,?_⟩
    rw[J6 (by omega) (by omega) (by omega),show (i:Int).toNat=i by omega,show (w2:Int).toNat - i=2 by omega,hd,h1,h2];rfl
 have hdrop1:∀k:UInt8,R.head? =some k→Q6 s (some (.int .i64 (w2:Int))) none=some (.str (R.drop 1)):=by
  intro k h2
  cases hRR:R with
  | nil=>rw[hRR]at h2;simp at h2
  | cons d r=>
    rw[hRR]at hRl
    simp at hRl
    rw[←hRR,Qp (by omega) (by omega),hR,List.drop_drop,show (w2:Int).toNat=i+1+1 by omega]
 have haft:=fun(st':St) (hw:st'.Wf) (f:Nat) (h:i+f≤s.length)=>Zgl (st:=st') H.Ve hw (s:=s) (i:=i+f) h (by omega)
 have hCC:C=47:=(hcn 47).1 h47
 unfold Pa at hO
 have hsl:∀(f:Nat) (k:Int) (E:List UInt8),i+f≤s.length→E=s.drop (i+f)→O=Xd k (E.take (runN Qu E)) (i+(f+runN Qu E))→
   Q6 s (some (.int .i64 ((i+f:Nat):Int))) (some (.int .i64 ((i+f+runN Qu E:Nat):Int)))=some (.str (E.take (runN Qu E)))∧∀s6,s6.Wf→Qa T s6 (.fn 187 [] []) [.int .i64 k,.str (E.take (runN Qu E)),.int .i64 ((i+f+runN Qu E:Nat):Int)] (tk3 O):=by
  intro f k E h1 h2 h3
  have hrl:=E0 Qu E
  have hEl:E.length=s.length - (i+f):=by rw[h2,List.length_drop]
  refine⟨?_,fun s6 hw=> ?_⟩
  ·rw[J6 (by omega) (by omega) (by omega),show ((i+f:Nat):Int).toNat=i+f by omega,show ((i+f+runN Qu E:Nat):Int).toNat - (i+f)=runN Qu E by omega,←h2]
  ·rw[h3,show i+(f+runN Qu E)=i+f+runN Qu E by omega]
   exact Js H.Qn hw (by simp;omega)
 have y19:=hx.trans (Ext.aside hx.wf 19)
 obtain⟨I,hI⟩:∃I:Int,I=(i:Int):=⟨_,rfl⟩
 rw[←hI]at g1 ek1 ek2 hsub0 hsubc
 have hI0:0≤I:=by omega
 have hIt:I.toNat=i:=by omega
 by_cases hh47:R.head? =some 47
 ·have hDD:D=47:=t47.1 hh47
  rw[if_pos hh47,Md]at hO
  have hl2:i+2≤s.length:=(hpair 47 h47 hh47).1 |> fun h=>by omega
  obtain⟨m1,m2⟩:=hsl 2 5 (R.drop 1) hl2 (by rw[hR,List.drop_drop]) hO
  have ha:=fun(st':St) (hw:st'.Wf)=>haft st' hw 2 hl2
  rw[show s.drop (i+2)=R.drop 1 by rw[hR,List.drop_drop]]at ha
  rw[←hw2]at ha m1 m2
  clear hO hdrop1 hpair hsl
  generalize R.drop 1=E at*
  generalize w2+runN Qu E=z at*
  generalize E.take (runN Qu E)=X at*
  simp[go_sem,g0,g1,g4,g7,hI0,hIt,hc,←hC,hCC,hDD,ek2]
  refine(ha _ y19.wf).use fun s5 x5=> ?_
  have y5:=y19.trans x5
  simp[go_sem,g0,g1,ek2]
  refine(ha _ y5.wf).use fun s6 x6=> ?_
  have y6:=y5.trans x6
  simp[go_sem,g0,g1,ek2,m1]
  refine(m2 _ y6.wf).use fun s7 x7=> ?_
  obtain⟨k1,k2,k3⟩:=stop s7 O ((((Ext.aside hx.wf 19).trans x5).trans x6).trans x7) rfl
  simp[go_sem,k1,WO.run,Zg,Zm,Zr,RO.run,k2,tk3,k3,hres]
 ·have nD47:¬D=47:=fun h=>hh47 (t47.2 h)
  rw[if_neg hh47,Md]at hO
  obtain⟨m1,m2⟩:=hsl 1 4 R (by omega) hR hO
  have ha:=fun(st':St) (hw:st'.Wf)=>haft st' hw 1 (by omega)
  rw[←hR]at ha
  rw[←hw1]at ha m1 m2
  clear hO hdrop1 hpair hsl
  generalize w1+runN Qu R=z at*
  generalize R.take (runN Qu R)=X at*
  simp[go_sem,g0,g1,g4,g7,hI0,hIt,hc,←hC,hCC,nD47,ek1]
  refine(ha _ y19.wf).use fun s5 x5=> ?_
  have y5:=y19.trans x5
  simp[go_sem,g0,g1,ek1]
  refine(ha _ y5.wf).use fun s6 x6=> ?_
  have y6:=y5.trans x6
  simp[go_sem,g0,g1,ek1,m1]
  refine(m2 _ y6.wf).use fun s7 x7=> ?_
  obtain⟨k1,k2,k3⟩:=stop s7 O ((((Ext.aside hx.wf 19).trans x5).trans x6).trans x7) rfl
  simp[go_sem,k1,WO.run,Zg,Zm,Zr,RO.run,k2,tk3,k3,hres]
set_option maxHeartbeats 2000000 in
theorem Zad8 (H:B.Je T) {s3:St} (hx:Ext st s3) (hg:Zh s3.h st.nx=some (.cells 134 true [.int .i64 0,.int .i64 0,.str []])) {i:Nat} {s:List UInt8} (hs:s.length≤65536) (hi:i<s.length) {c:UInt8} (hc:s[i]? =some c) {R:List UInt8} (hR:R=s.drop (i+1)) (hRl:R.length=s.length - (i+1)) (hd:s.drop i=c::R) {O:T3} (hO:O=shift i (Zay c R))
  {e3:Env} (g0:Zb e3 0= .str s) (g1:Zb e3 1= .int .i64 (i:Int)) (g4:Zb e3 4= .ptr st.nx 0) {D C:Int} (g7:Zb e3 7= .int .u8 D) (t60:R.head? =some 60↔D=60) (t62:R.head? =some 62↔D=62) (t126:R.head? =some 126↔D=126) (t47:R.head? =some 47↔D=47) (hC:C=(c.toNat:Int)) (hcn:∀n:UInt8,c=n↔C=n.toNat) (n40:¬C=40) (n123:¬C=123) (n125:¬C=125) (n91:¬C=91) (n93:¬C=93) (n41:¬C=41) (n60:¬C=60) (n62:¬C=62) (n47:¬C=47) (hb:128≤c.toNat∧c.toNat<160):
  Res (run T B.Zv.body.b.b.b e3 s3) fun x e s=>(x= .norm∨x= .ret)∧Zg s.h e B.Zv.results=some (tk3 O)∧Ext st s:=by
 simp only[B.Zv,Qq]
 have e0:c.toNat=C.toNat:=by omega
 have stop:∀(s5:St) (t:T3),Ext s3 s5→O=t→Z5 s5.h st.nx 0 [.int .i64 t.1.1,.int .i64 t.1.2.1,.str t.1.2.2]=some (Qi s5.h st.nx (.cells 134 true [.int .i64 t.1.1,.int .i64 t.1.2.1,.str t.1.2.2]))∧
   Z1 (Qi s5.h st.nx (.cells 134 true [.int .i64 t.1.1,.int .i64 t.1.2.1,.str t.1.2.2])) st.nx 0 3=some [.int .i64 t.1.1,.int .i64 t.1.2.1,.str t.1.2.2]∧Ext st ⟨Qi s5.h st.nx (.cells 134 true [.int .i64 t.1.1,.int .i64 t.1.2.1,.str t.1.2.2]),s5.nx⟩:=fun s5 t x5 _=>
  L4 (hx.trans x5) (x5.get hx.wf hg) t
 have hres:B.Zv.results=[.cell 4 (some 3),.t 5,.t 6]:=rfl
 have hsub0:Q6 s (some (.int .i64 (i:Int))) none=some (.str (s.drop i)):=by rw[Qp (by omega) (by omega)];simp
 obtain⟨w1,hw1⟩:∃w:Nat,w=i+1:=⟨_,rfl⟩
 obtain⟨w2,hw2⟩:∃w:Nat,w=i+2:=⟨_,rfl⟩
 have ek1:IntKind.i64.wrap ((i:Int)+1)=(w1:Int):=by rw[Zf (by omega) (by omega)];omega
 have ek2:IntKind.i64.wrap ((i:Int)+2)=(w2:Int):=by rw[Zf (by omega) (by omega)];omega
 have hsub1:Q6 s (some (.int .i64 (w1:Int))) none=some (.str R):=by rw[Qp (by omega) (by omega),hR,show (w1:Int).toNat=i+1 by omega]
 have hsubc:Q6 s (some (.int .i64 (i:Int))) (some (.int .i64 (w1:Int)))=some (.str [c]):=by
  rw[J6 (by omega) (by omega) (by omega),show (i:Int).toNat=i by omega,show (w1:Int).toNat - i=1 by omega,hd];rfl
 have hnm:=fun(k:Int) (x:List UInt8) (n:Nat) (h:x.length<1000000000000)=>Js (st:=s3) H.Qn hx.wf (k:=k) (x:=x) (n:=n) h
 have b1:(128:Int)≤C:=by omega
 have b2:C≤159:=by omega
 rw[hR]at hO
 have hbin:=Zh6 H.Vw hx.wf (by omega) hi hc hb.1
 rw[←hO]at hbin
 simp[go_sem,g0,g1,g4,g7,hc,←hC,n40,n123,n125,n91,n93,n60,n62,n41,n47,b1,b2]
 refine hbin.use fun s5 x5=> ?_
 obtain⟨k1,k2,k3⟩:=stop s5 O x5 rfl
 simp[go_sem,k1,WO.run,Zg,Zm,Zr,RO.run,k2,tk3,k3,hres]
set_option maxHeartbeats 2000000 in
theorem Zab8 (H:B.Je T) {s3:St} (hx:Ext st s3) (hg:Zh s3.h st.nx=some (.cells 134 true [.int .i64 0,.int .i64 0,.str []])) {i:Nat} {s:List UInt8} (hs:s.length≤65536) (hi:i<s.length) {c:UInt8} (hc:s[i]? =some c) {R:List UInt8} (hR:R=s.drop (i+1)) (hRl:R.length=s.length - (i+1)) (hd:s.drop i=c::R) {O:T3} (hO:O=shift i (Zhh (c::R)))
  {e3:Env} (g0:Zb e3 0= .str s) (g1:Zb e3 1= .int .i64 (i:Int)) (g4:Zb e3 4= .ptr st.nx 0) {D C:Int} (g7:Zb e3 7= .int .u8 D) (t60:R.head? =some 60↔D=60) (t62:R.head? =some 62↔D=62) (t126:R.head? =some 126↔D=126) (t47:R.head? =some 47↔D=47) (hC:C=(c.toNat:Int)) (hcn:∀n:UInt8,c=n↔C=n.toNat) (n40:¬C=40) (n123:¬C=123) (n125:¬C=125) (n91:¬C=91) (n93:¬C=93) (n41:¬C=41) (n60:¬C=60) (n62:¬C=62) (n47:¬C=47) (hb:¬(128≤c.toNat∧c.toNat<160)):
  Res (run T B.Zv.body.b.b.b e3 s3) fun x e s=>(x= .norm∨x= .ret)∧Zg s.h e B.Zv.results=some (tk3 O)∧Ext st s:=by
 simp only[B.Zv,Qq]
 have e0:c.toNat=C.toNat:=by omega
 have stop:∀(s5:St) (t:T3),Ext s3 s5→O=t→Z5 s5.h st.nx 0 [.int .i64 t.1.1,.int .i64 t.1.2.1,.str t.1.2.2]=some (Qi s5.h st.nx (.cells 134 true [.int .i64 t.1.1,.int .i64 t.1.2.1,.str t.1.2.2]))∧
   Z1 (Qi s5.h st.nx (.cells 134 true [.int .i64 t.1.1,.int .i64 t.1.2.1,.str t.1.2.2])) st.nx 0 3=some [.int .i64 t.1.1,.int .i64 t.1.2.1,.str t.1.2.2]∧Ext st ⟨Qi s5.h st.nx (.cells 134 true [.int .i64 t.1.1,.int .i64 t.1.2.1,.str t.1.2.2]),s5.nx⟩:=fun s5 t x5 _=>
  L4 (hx.trans x5) (x5.get hx.wf hg) t
 have hres:B.Zv.results=[.cell 4 (some 3),.t 5,.t 6]:=rfl
 have hsub0:Q6 s (some (.int .i64 (i:Int))) none=some (.str (s.drop i)):=by rw[Qp (by omega) (by omega)];simp
 obtain⟨w1,hw1⟩:∃w:Nat,w=i+1:=⟨_,rfl⟩
 obtain⟨w2,hw2⟩:∃w:Nat,w=i+2:=⟨_,rfl⟩
 have ek1:IntKind.i64.wrap ((i:Int)+1)=(w1:Int):=by rw[Zf (by omega) (by omega)];omega
 have ek2:IntKind.i64.wrap ((i:Int)+2)=(w2:Int):=by rw[Zf (by omega) (by omega)];omega
 have hsub1:Q6 s (some (.int .i64 (w1:Int))) none=some (.str R):=by rw[Qp (by omega) (by omega),hR,show (w1:Int).toNat=i+1 by omega]
 have hsubc:Q6 s (some (.int .i64 (i:Int))) (some (.int .i64 (w1:Int)))=some (.str [c]):=by
  rw[J6 (by omega) (by omega) (by omega),show (i:Int).toNat=i by omega,show (w1:Int).toNat - i=1 by omega,hd];rfl
 have hnm:=fun(k:Int) (x:List UInt8) (n:Nat) (h:x.length<1000000000000)=>Js (st:=s3) H.Qn hx.wf (k:=k) (x:=x) (n:=n) h
 have haft:=fun(st':St) (hw:st'.Wf) (f:Nat) (h:i+f≤s.length)=>Zgl (st:=st') H.Ve hw (s:=s) (i:=i+f) h (by omega)
 unfold Zhh at hO
 rw[←hd]at hO
 have ha:=fun(st':St) (hw:st'.Wf)=>haft st' hw 0 (by omega)
 simp only[Nat.add_zero]at ha
 have hrl:=E0 Qu (s.drop i)
 rw[List.length_drop]at hrl
 obtain⟨z,hz⟩:∃z:Nat,z=i+runN Qu (s.drop i):=⟨_,rfl⟩
 have hsubz:Q6 s (some (.int .i64 (i:Int))) (some (.int .i64 (z:Int)))=some (.str ((s.drop i).take (runN Qu (s.drop i)))):=by
  rw[J6 (by omega) (by omega) (by omega),show (i:Int).toNat=i by omega,show (z:Int).toNat - i=runN Qu (s.drop i)by omega]
 have hwd:=fun(st':St) (hw:st'.Wf)=>Zma (st:=st') H.Ua hw (s:=(s.drop i).take (runN Qu (s.drop i))) (by simp;omega)
 simp only[Zyt]at hwd
 rw[←hz]at ha
 generalize hWt:Bu ((s.drop i).take (runN Qu (s.drop i)))=Wt at*
 obtain⟨wk,wn,wx,we⟩:=Wt
 simp only at hO
 generalize (s.drop i).take (runN Qu (s.drop i))=X at*
 have hbb:(128≤c.toNat∧(128:Int)≤C∧¬C≤159)∨((¬128≤c.toNat)∧¬(128:Int)≤C∧True):=by
  by_cases h:128≤c.toNat
  ·exact .inl ⟨h,by omega,by omega⟩
  ·exact .inr ⟨h,by omega,trivial⟩
 clear hsub1 hsubc hnm t60 t62 t126 t47
 rcases hbb with ⟨_,b1,b2⟩ | ⟨_,b1,b2⟩
 all_goals
  simp[go_sem,g0,g1,g4,g7,hc,←hC,n40,n123,n125,n91,n93,n60,n62,n41,n47,b1,b2]
  refine(ha _ hx.wf).use fun s5 x5=> ?_
  have y5:=hx.trans x5
  simp[go_sem,hsubz]
  refine(hwd _ y5.wf).use fun s6 x6=> ?_
  have y6:=y5.trans x6
  have g6:=x6.get y5.wf (x5.get hx.wf hg)
  have x7:=Ext.new y6.wf (.cells 134 true [.int .i64 wk,.int .i64 wn,.str wx])
  have y7:=y6.trans x7
  have g7':=x7.get y6.wf g6
  simp[go_sem,toW,Yj,Vp,NO.run,WO.run,Vo]
  by_cases hwe:we=0
  ·rw[if_neg (by simpa using hwe)]at hO
   have hO2:O=((wk,wn,wx),z,0):=by rw[hO,hz];rfl
   subst hO2
   have y8:=y7.trans (Ext.aside y7.wf 8)
   simp[go_sem,hwe,g0,g1,g4,RO.run,K5,Nat.add_assoc]
   refine(ha _ y8.wf).use fun s9 x9=> ?_
   have y9:=y8.trans x9
   have x9':=((Ext.aside y7.wf 8).trans x9)
   have g9:=x9'.get y7.wf g7'
   have z9:=x9'.get y7.wf (n:=s6.nx) (o:= .cells 134 true [.int .i64 wk,.int .i64 wn,.str wx]) (by simp[Ze])
   obtain⟨k1,k2,k3⟩:=L4 (st:=st) y9 g9 ((wk,wn,wx),z,0)
   simp only at k1 k2 k3
   simp[go_sem,reI,RO.run,Qd z9]
   refine⟨rfl,?_⟩
   simp[go_sem,g4,k1,WO.run,Zg,Zm,Zr,RO.run,k2,tk3,k3,hres]
  ·rw[if_pos hwe,Wu _ _ hwe]at hO
   subst hO
   obtain⟨k1,k2,k3⟩:=L4 (st:=st) y7 g7' (Qt we)
   simp only[Qt]at k1 k2 k3
   simp[go_sem,hwe,g4,k1,WO.run,Zg,Zm,Zr,RO.run,k2,tk3,Qt,k3,hres]
theorem Zki (H:B.Je T) (hwf:st.Wf) {i:Nat} {s:List UInt8} (hs:s.length≤65536) (hi:i<s.length):Qa T st (.fn 177 [] []) [.str s,.int .i64 (i:Int)] (tk3 (shift i (Hc (s.drop i)))):=by
 refine Zs H.e H.f rfl ?_
 have hx:=Ext.new hwf (.cells 134 true [.int .i64 0,.int .i64 0,.str []])
 have hg:=Xe st.h st.nx
 obtain⟨c,hc,hd⟩:=Z9 hi
 obtain⟨R,hR⟩:∃R,R=s.drop (i+1):=⟨_,rfl⟩
 have hRl:R.length=s.length - (i+1):=by rw[hR,List.length_drop]
 rw[←hR]at hd
 obtain⟨O,hO⟩:∃O,O=shift i (Hc (s.drop i)):=⟨_,rfl⟩
 rw[←hO]
 rw[hd]at hO
 refine Fs (fun x e' s'=>x= .norm∧s'=⟨(st.nx,Z7.cells 134 true [.int .i64 0,.int .i64 0,.str []])::st.h,st.nx+1⟩∧Zb e' 0= .str s∧Zb e' 1= .int .i64 (i:Int)∧Zb e' 4= .ptr st.nx 0) (by simp) ?_ ?_
 ·simp[go_sem,NO.run]
 rintro _ e1 s1 ⟨rfl,hst,g0,g1,g4⟩
 rw[Qw]
 have hsh:s1.h=(st.nx,Z7.cells 134 true [.int .i64 0,.int .i64 0,.str []])::st.h:=by rw[hst]
 rw[←hst]at hx
 rw[←hsh]at hg
 clear hst hsh
 refine Fs (fun x e' s'=>x= .norm∧s'=s1∧Zb e' 0= .str s∧Zb e' 1= .int .i64 (i:Int)∧Zb e' 4= .ptr st.nx 0∧Zb e' 7= .int .u8 0) (by simp) ?_ ?_
 ·simp[go_sem,g0,g1,g4]
 rintro _ e2 s2 ⟨rfl,rfl,g0,g1,g4,g7⟩
 rw[Qw]
 refine Fs (fun x e' s'=>x= .norm∧s'=s2∧Zb e' 0= .str s∧Zb e' 1= .int .i64 (i:Int)∧Zb e' 4= .ptr st.nx 0∧Zb e' 7= .int .u8 ((Zr6 R).toNat:Int)) (by simp) ?_ ?_
 ·obtain⟨w,hw⟩:∃w:Int,w=(i:Int)+1:=⟨_,rfl⟩
  have ek:IntKind.i64.wrap ((i:Int)+1)=w:=by rw[hw,Zf (by omega) (by omega)]
  by_cases h:i+1<s.length
  ·obtain⟨d,hdd,hdr⟩:=Z9 h
   have hR2:R=d::s.drop (i+1+1):=by rw[hR,hdr]
   have h1:w<s.length:=by omega
   have h2:(0:Int)≤w:=by omega
   have h3:w.toNat=i+1:=by omega
   rw[hR2]
   simp[go_sem,g0,g1,g4,g7,ek,h1,h2,h3,hdd,Zr6]
  ·have hR2:R=[]:=List.length_eq_zero_iff.1 (by omega)
   have h1:¬w<s.length:=by omega
   rw[hR2]
   simp[go_sem,g0,g1,g4,g7,ek,h1,Zr6]
 rintro _ e3 s3 ⟨rfl,rfl,g0,g1,g4,g7⟩
 rw[Qw]
 have t60:=Zfc R 60 (by decide)
 have t62:=Zfc R 62 (by decide)
 have t126:=Zfc R 126 (by decide)
 have t47:=Zfc R 47 (by decide)
 obtain⟨D,hD⟩:∃D:Int,D=((Zr6 R).toNat:Int):=⟨_,rfl⟩
 have hdn:∀n:UInt8,Zr6 R=n↔D=n.toNat:=fun n=>by rw[hD,←UInt8.toNat_inj];omega
 rw[hdn]at t60 t62 t126 t47
 rw[←hD]at g7
 obtain⟨C,hC⟩:∃C:Int,C=(c.toNat:Int):=⟨_,rfl⟩
 have hcn:∀n:UInt8,c=n↔C=n.toNat:=fun n=>by rw[hC,←UInt8.toNat_inj];omega
 by_cases h40:c=40
 ·exact rt40 H hx hg hs hi hc hR hRl hd hO g0 g1 g4 g7 t60 t62 t126 t47 hC hcn h40
 rw[Hc,if_neg h40]at hO
 by_cases hsm:c=41∨c=123∨c=125∨c=91∨c=93
 ·refine Zaaa H hx hg hs hi hc hR hRl hd (O:=O) ?_ g0 g1 g4 g7 t60 t62 t126 t47 hC hcn h40 hsm
  rw[hO]
  rcases hsm with rfl | rfl | rfl | rfl | rfl <;> rfl
 have h41:¬c=41:=fun h=>hsm (.inl h)
 have h123:¬c=123:=fun h=>hsm (.inr (.inl h))
 have h125:¬c=125:=fun h=>hsm (.inr (.inr (.inl h)))
 have h91:¬c=91:=fun h=>hsm (.inr (.inr (.inr (.inl h))))
 have h93:¬c=93:=fun h=>hsm (.inr (.inr (.inr (.inr h))))
 have n40:¬C=40:=fun h=>h40 ((hcn 40).2 h)
 have n41:¬C=41:=fun h=>h41 ((hcn 41).2 h)
 have n123:¬C=123:=fun h=>h123 ((hcn 123).2 h)
 have n125:¬C=125:=fun h=>h125 ((hcn 125).2 h)
 have n91:¬C=91:=fun h=>h91 ((hcn 91).2 h)
 have n93:¬C=93:=fun h=>h93 ((hcn 93).2 h)
 rw[if_neg h41,if_neg h123,if_neg h125,if_neg (fun h=>h.elim h91 h93)]at hO
 by_cases h60:c=60
 ·rw[if_pos h60]at hO
  exact rt60 H hx hg hs hi hc hR hRl hd hO g0 g1 g4 g7 t60 t62 t126 t47 hC hcn n40 n123 n125 n91 n93 n41 h60
 rw[if_neg h60]at hO
 have n60:¬C=60:=fun h=>h60 ((hcn 60).2 h)
 by_cases h62:c=62
 ·rw[if_pos h62]at hO
  exact rt62 H hx hg hs hi hc hR hRl hd hO g0 g1 g4 g7 t60 t62 t126 t47 hC hcn n40 n123 n125 n91 n93 n41 n60 h62
 rw[if_neg h62]at hO
 have n62:¬C=62:=fun h=>h62 ((hcn 62).2 h)
 by_cases h47:c=47
 ·rw[if_pos h47]at hO
  exact rt47 H hx hg hs hi hc hR hRl hd hO g0 g1 g4 g7 t60 t62 t126 t47 hC hcn n40 n123 n125 n91 n93 n41 n60 n62 h47
 rw[if_neg h47]at hO
 have n47:¬C=47:=fun h=>h47 ((hcn 47).2 h)
 by_cases hb:128≤c.toNat∧c.toNat<160
 ·rw[if_pos hb]at hO
  exact Zad8 H hx hg hs hi hc hR hRl hd hO g0 g1 g4 g7 t60 t62 t126 t47 hC hcn n40 n123 n125 n91 n93 n41 n60 n62 n47 hb
 rw[if_neg hb]at hO
 exact Zab8 H hx hg hs hi hc hR hRl hd hO g0 g1 g4 g7 t60 t62 t126 t47 hC hcn n40 n123 n125 n91 n93 n41 n60 n62 n47 hb
end Go.Ev

/- The reference's Next. -/
namespace Go.Ev
open Go
variable {T : Tab} {st : St}
theorem Zl6 (H:B.Hl T) (hwf:st.Wf) {s:List UInt8} {i:Int} (hi0: -9223372036854775808≤i) (hi1:i≤9223372036854775807) (hs:s.length<1000000000):Qa T st (.fn 159 [] []) [.str s,.int .i64 i] (tk3 (Xq s i)):=by
 refine Zs H.e H.f rfl ?_
 have hx:=Ext.new hwf (.cells 134 true [.int .i64 0,.int .i64 0,.str []])
 have hg:=Xe st.h st.nx
 obtain⟨O,hO⟩:∃O,O=Xq s i:=⟨_,rfl⟩
 rw[←hO]
 unfold Xq at hO
 by_cases hl:65536<s.length
 ·rw[if_pos hl]at hO
  subst hO
  obtain⟨k1,k2,k3⟩:=L4 (st:=st) hx hg (Qt 3)
  simp only[Qt]at k1 k2 k3
  simp[B.K1,go_sem,NO.run,hl,show (65536:Int)<s.length by omega,k1,WO.run,Zg,Zm,Zr,RO.run,k2,tk3,Qt,k3]
 ·rw[if_neg hl]at hO
  have hl':¬(65536:Int)<s.length:=by omega
  by_cases hb:i<0∨(s.length:Int)<i
  ·rw[if_pos hb]at hO
   subst hO
   obtain⟨k1,k2,k3⟩:=L4 (st:=st) hx hg (Qt 2)
   simp only[Qt]at k1 k2 k3
   by_cases h0:i<0
   ·simp[B.K1,go_sem,NO.run,hl,hl',h0,k1,WO.run,Zg,Zm,Zr,RO.run,k2,tk3,Qt,k3]
   ·have h2:(s.length:Int)<i:=by rcases hb with h | h;exact absurd h h0;exact h
    simp[B.K1,go_sem,NO.run,hl,hl',h0,h2,k1,WO.run,Zg,Zm,Zr,RO.run,k2,tk3,Qt,k3]
  ·rw[if_neg hb]at hO
   have h0:¬i<0:=fun h=>hb (.inl h)
   have h2:¬(s.length:Int)<i:=fun h=>hb (.inr h)
   obtain⟨j,rfl⟩:=Int.eq_ofNat_of_zero_le (show 0≤i by omega)
   simp only[Int.toNat_natCast]at hO
   have hsk:=fun(st':St) (hw:st'.Wf)=>Zl8 (st:=st') H.Wr hw (s:=s) (i:=j) (by omega) (by omega)
   have hle:=A7 false (s.drop j)
   rw[List.length_drop]at hle
   generalize hK:j+skp false (s.drop j)=K at*
   simp[B.K1,go_sem,NO.run,hl,hl',h0,h2]
   refine(hsk _ hx.wf).use fun s2 x2=> ?_
   have y2:=hx.trans x2
   have hg2:=x2.get hx.wf hg
   by_cases hKe:K=s.length
   ·rw[if_pos hKe]at hO
    subst hO
    have hKe':(K:Int)=s.length:=by omega
    obtain⟨k1,k2,k3⟩:=L4 (st:=st) y2 hg2 ((0,0,[]),K,4)
    simp only at k1 k2 k3
    simp[go_sem,hKe,k1,WO.run,Zg,Zm,Zr,RO.run,k2,tk3,k3]
   ·rw[if_neg hKe]at hO
    have hKe':¬(K:Int)=s.length:=by omega
    have htk:=Zki H.Zv y2.wf (s:=s) (i:=K) (by omega) (by omega)
    have hok:=Zaao (s.drop K)
    generalize Hc (s.drop K)=W at*
    obtain⟨⟨wk,wn,wx⟩,wl,we⟩:=W
    simp only at hO
    simp[go_sem,hKe,hKe']
    refine htk.use fun s3 x3=> ?_
    have y3:=y2.trans x3
    have hg3:=x3.get y2.wf hg2
    by_cases hwe:we=0
    ·subst hwe
     have hsh:shift K ((wk,wn,wx),wl,0)=((wk,wn,wx),K+wl,0):=by simp[shift]
     rw[hsh]
     obtain⟨z,hz⟩:∃z,z=K+wl:=⟨_,rfl⟩
     rw[←hz]at hO⊢
     subst hO
     have x4:=Ext.new y3.wf (.cells 134 true [.int .i64 wk,.int .i64 wn,.str wx])
     have y4:=y3.trans x4
     have hg4:=x4.get y3.wf hg3
     obtain⟨k1,k2,k3⟩:=L4 (st:=st) y4 hg4 ((wk,wn,wx),z,0)
     simp only at k1 k2 k3
     simp[go_sem,tk3,NO.run,WO.run,RO.run,Vo,K5,k1,Zg,Zm,Zr,k2,k3]
    ·have hsh:shift K ((wk,wn,wx),wl,we)=Qt we:=by
      rcases hok with h | h
      ·exact absurd h hwe
      ·simp only at h
       rw[h,Wu _ _ hwe]
     have hO2:O=((0,0,[]),K,we):=by
      rcases hok with h | h
      ·exact absurd h hwe
      ·simp only[Qt,Prod.mk.injEq]at h
       obtain⟨⟨a1,a2,a3⟩,a4,_⟩:=h
       rw[hO,a1,a2,a3,a4];rfl
     rw[hsh]
     subst hO2
     have x4:=Ext.new y3.wf (.cells 134 true [.int .i64 0,.int .i64 0,.str []])
     have y4:=y3.trans x4
     have hg4:=x4.get y3.wf hg3
     obtain⟨k1,k2,k3⟩:=L4 (st:=st) y4 hg4 ((0,0,[]),K,we)
     simp only at k1 k2 k3
     simp[go_sem,tk3,Qt,hwe,NO.run,WO.run,RO.run,Vo,k1,Zg,Zm,Zr,k2,k3]
end Go.Ev

/- Lists of tokens. -/
namespace Go.Ev
open Go
variable {T : Tab} {st : St}
abbrev Tok:=Int×Int×List UInt8
def tkA (t:Tok):List AV:=[.int .i64 t.1,.int .i64 t.2.1,.str t.2.2]
def D8 (l:List Tok):List AV:=l.flatMap tkA
theorem Ztz (l:List Tok) (t:Tok):D8 (l++[t])=D8 l++tkA t:=by simp[D8]
theorem Zr3:∀{l:List Tok} {i:Nat} {t:Tok},l[i]? =some t→((D8 l).drop (i*3)).take 3=tkA t
 | [],i,t,h=>by simp at h
 | x::r,0,t,h=>by
   simp at h
   subst h
   simp[D8,tkA]
 | x::r,i+1,t,h=>by
   have:=Zr3 (l:=r) (i:=i) (t:=t) (by simpa using h)
   rw[←this]
   have e:(i+1)*3=(tkA x).length+i*3:=by simp[tkA];omega
   rw[e]
   simp only[D8,List.flatMap_cons]
   rw[←List.drop_drop,List.drop_left]
theorem Ze4 {h:Heap} {n off c o k:Nat} {cs:List AV} (a:Z1 h n off c=some cs) (hk:o+k≤c):Z1 h n (off+o) k=some ((cs.drop o).take k):=by
 unfold Z1 at a⊢
 split at a
 all_goals
  first
  | (split at a
     ·rename_i hle
      injection a with a
      rw[if_pos (by omega),←a,List.drop_take,List.drop_drop,List.take_take,Nat.min_eq_left (by omega)]
     ·cases a)
  | cases a
theorem Rd.tok {h:Heap} {v:AV} {l:List Tok} {i:Nat} {t:Tok} (a:Rd h v 3 l.length (D8 l)) (ht:l[i]? =some t):∃n off cp,v= .slice n off l.length cp∧Z1 h n (off+i*3) 3=some [.int .i64 t.1,.int .i64 t.2.1,.str t.2.2]:=by
 have hil:i<l.length:=by
  rcases Nat.lt_or_ge i l.length with h | h
  ·exact h
  ·rw[List.getElem?_eq_none h]at ht;cases ht
 rcases a with ⟨h1,h2,h3⟩ | ⟨n,off,cp,h1,h2⟩
 ·omega
 ·refine⟨n,off,cp,h1,?_⟩
  have:=Ze4 h2 (o:=i*3) (k:=3) (by omega)
  rw[Zr3 ht]at this
  exact this
def K6 (st0 s:St) (v:AV) (l:List Tok):Prop:=Sl s v 134 3 l.length (D8 l)∧Xg [] st0 v∧NK v
theorem K6.nil (st0 s:St):K6 st0 s .Zk []:=⟨.nil _ _ _,.nil _ _,fun _ _ _ _ h=>by cases h⟩
theorem K6.ge {st0 s:St} {v:AV} {l:List Tok} (a:K6 st0 s v l):∀n∈v.nms,st0.nx≤n:=fun n hn=>by
 rcases a.2.1 n hn with h | h
 ·cases h
 ·exact h
theorem K6.ext {st0 s s':St} {v:AV} {l:List Tok} (a:K6 st0 s v l) (f:Ext s s') (hw:s.Wf):K6 st0 s' v l:=⟨a.1.ext f hw,a.2.1,a.2.2⟩
theorem K6.Yo {st0 s s':St} {v:AV} {l:List Tok} {S:List Nat} (a:K6 st0 s v l) (f:Frm S s s') (hw:s.Wf) (hn:∀n∈v.nms,n∉S):K6 st0 s' v l:=⟨a.1.Yo f hw hn,a.2.1,a.2.2⟩
theorem K6.Zp {st0 s:St} {v:AV} {l:List Tok} {c:Nat} (a:K6 st0 s v l) (hw:s.Wf):K6 st0 ⟨Go.Ev.Zp c s.h,s.nx⟩ v l:=⟨a.1.Zp hw,a.2.1,a.2.2⟩
theorem K6.rd {st0 s:St} {v:AV} {l:List Tok} (a:K6 st0 s v l):Rd s.h v 3 l.length (D8 l):=a.1.rd
theorem K6.form {st0 s:St} {v:AV} {l:List Tok} (a:K6 st0 s v l):(v= .Zk∧l=[])∨∃n,v= .slice n 0 l.length .full∧Zh s.h n=some (.buf 134 3 (D8 l))∧st0.nx≤n:=by
 have hge:=a.ge
 obtain⟨⟨m,hsl⟩,b6,b7⟩:=a
 rcases hsl with ⟨k1,k2,k3⟩ | ⟨k1,k2,k3⟩ | ⟨ty',k1,k2,k3⟩
 ·exact .inl ⟨k1,List.length_eq_zero_iff.1 k3⟩
 ·exact .inr ⟨m,k1,k2,hge m (by rw[k1];simp[AV.nms])⟩
 ·exact absurd k1 (b7 _ _ _ _)
theorem K6.sc {st0 s:St} {v:AV} {l:List Tok} (a:K6 st0 s v l):v.sc=true:=by
 rcases a.form with ⟨h,_⟩ | ⟨n,h,_⟩ <;> rw[h] <;> rfl
theorem K6.push {st0 s1:St} (hF:st0.nx≤s1.nx) (hw:s1.Wf) {v:AV} {l:List Tok} (a b:Int) (c:List UInt8) {k:Nat} (hk:0<k) (g:K6 st0 s1 v l) (hl:l.length<1000000000000):
  Jg (Ym 134 3 32 ⟨(s1.nx,.cells 134 false [.int .i64 a,.int .i64 b,.str c])::s1.h,s1.nx+k⟩ v (.slice s1.nx 0 1 (.known 1))) fun v' s=>K6 st0 s v' (l++[(a,b,c)])∧Frm v.nms s1 s:=by
 obtain⟨a1,a2,a3⟩:=g
 have xa:=Ext.Zzw hw (.cells 134 false [.int .i64 a,.int .i64 b,.str c]) hk
 have hap:=Sl.append (x:= .slice s1.nx 0 1 (.known 1)) (j:=1) (new:=[.int .i64 a,.int .i64 b,.str c]) (b:=32) (Frm.refl xa.wf v.nms) (fun n h=> .inl h) (a1.ext xa hw)
  (.inr ⟨_,_,_,rfl,Mw (ty:=134) (l:=false) (by simp[Ze]) rfl⟩) (by simp[AV.sc]) (by omega) (by omega) (.inl (by omega))
 refine(hap.Zsl (fun _ _ h=>Gw h a3)).mono ?_
 rintro v2 s2 ⟨⟨k1,k2,k3,_⟩,hnk2⟩
 refine⟨⟨by rw[Ztz];simpa [tkA] using k1,fun n hn=> ?_,hnk2⟩,(xa.fr v.nms).trans k2 (fun n h=> .inl h)⟩
 rcases k3 n hn with h | h
 ·exact a2 n h
 ·simp at h;exact .inr (by omega)
structure Dra where
 k:Nat
 n:Int
 t:List UInt8
instance:Inhabited Dra:=⟨⟨0,0,[]⟩⟩
def Dra.ok (d:Dra):Prop:=d.k<256∧-2147483648≤d.n∧d.n≤2147483647∧d.t.length<9223372036854775808
def Zfm (d:Dra):List AV:=[.int .u8 (d.k:Int),.int .i32 d.n,.str d.t]
def Zbz (l:List Dra):List AV:=l.flatMap Zfm
def Dra.tok (d:Dra):Tok:=Ec d.k d.n d.t
theorem Zfn:∀l:List Dra,(Zbz l).length=l.length*3
 | []=>rfl
 | t::r=>by
   have:=Zfn r
   simp only[Zbz,List.flatMap_cons,List.length_append,List.length_cons]at this⊢
   simp only[Zfm,List.length_cons,List.length_nil]
   omega
theorem Zi8:∀{l:List Dra} {i:Nat} {t:Dra},l[i]? =some t→((Zbz l).drop (i*3)).take 3=Zfm t
 | [],i,t,h=>by simp at h
 | x::r,0,t,h=>by
   simp at h
   subst h
   simp[Zbz,Zfm]
 | x::r,i+1,t,h=>by
   have:=Zi8 (l:=r) (i:=i) (t:=t) (by simpa using h)
   rw[←this]
   have e:(i+1)*3=(Zfm x).length+i*3:=by simp[Zfm];omega
   rw[e]
   simp only[Zbz,List.flatMap_cons]
   rw[←List.drop_drop,List.drop_left]
def InD (h:Heap) (v:AV) (l:List Dra):Prop:=Rd h v 3 l.length (Zbz l)∧∀d∈l,d.ok
theorem InD.ext {st':St} {v:AV} {l:List Dra} (a:InD st.h v l) (x:Ext st st') (hw:st.Wf):InD st'.h v l:=⟨a.1.ext x hw,a.2⟩
theorem InD.at {h:Heap} {v:AV} {l:List Dra} {i:Nat} {d:Dra} (a:InD h v l) (ht:l[i]? =some d):∃n off cp,v= .slice n off l.length cp∧Z1 h n (off+i*3) 3=some [.int .u8 (d.k:Int),.int .i32 d.n,.str d.t]:=by
 have hil:i<l.length:=by
  rcases Nat.lt_or_ge i l.length with h | h
  ·exact h
  ·rw[List.getElem?_eq_none h]at ht;cases ht
 rcases a.1 with ⟨h1,h2,h3⟩ | ⟨n,off,cp,h1,h2⟩
 ·omega
 ·refine⟨n,off,cp,h1,?_⟩
  have:=Ze4 h2 (o:=i*3) (k:=3) (by omega)
  rw[Zi8 ht]at this
  exact this
def Du (d:List Dra):List Tok:=(d.take 40).map Dra.tok
theorem Zne (d:List Dra):(Du d).length≤40:=by simp[Du];omega
theorem Zr4 {d:List Dra} (h:∀x∈d,x.ok):∀t∈Du d,Qg t.1 t.2.1 t.2.2=true∧t.2.2.length≤60:=by
 intro t ht
 simp only[Du,List.mem_map]at ht
 obtain⟨x,hx,rfl⟩:=ht
 obtain⟨h1,h2,h3,h4⟩:=h x (List.mem_of_mem_take hx)
 exact⟨Zpv x.k h2 h3 x.t,Zvb _ _ _⟩
theorem Zwq (H:B.Xr T) {st0:St} (hw0:st0.Wf) {v0:AV} {d:List Dra} (hd0:InD st0.h v0 d):∀(m i:Nat) (v:AV) (e:Env) (st1:St),i+m=min d.length 40→Ext st0 st1→K6 st0 st1 v (Du (d.take i))→Zb e 0=v0→Zb e 3=v→Zb e 4= .int .i64 (i:Int)→
  Res (run T (.loop B.K9) e st1) fun x e' s'=>x= .exit 0∧Ext st0 s'∧K6 st0 s' (Zb e' 3) (Du d):=by
 intro m
 induction m with
 | zero=>
   intro i v e st1 hi hx hg g0 g3 g4
   have hd:=hd0.ext hx hw0
   have htk:Du (d.take i)=Du d:=by
    unfold Du
    rw[List.take_take]
    congr 1
    rw[List.take_eq_take_iff]
    omega
   rw[htk]at hg
   clear htk
   rw[Zn]
   rcases hd.1 with ⟨rfl,h2,h3⟩ | ⟨n,off,cp,rfl,h2⟩
   ·have:i=0:=by omega
    subst this
    simp[B.K9,go_sem,g0,g3,g4,hx,hg]
   ·by_cases h40:(i:Int)<d.length
    ·have:¬(i:Int)<40:=by omega
     simp[B.K9,go_sem,g0,g3,g4,h40,this,hx,hg]
    ·simp[B.K9,go_sem,g0,g3,g4,h40,hx,hg]
 | succ m ih=>
   intro i v e st1 hi hx hg g0 g3 g4
   have hd:=hd0.ext hx hw0
   have hil:i<d.length:=by omega
   obtain⟨c,hc⟩:∃c,d[i]? =some c:=⟨_,List.getElem?_eq_getElem hil⟩
   obtain⟨n,off,cp,hv0,hrd⟩:=hd.at hc
   obtain⟨hk,hn0,hn1,ht⟩:=hd.2 c (List.mem_of_getElem? hc)
   have h1:(i:Int)<d.length:=by omega
   have h2:(i:Int)<40:=by omega
   have ek:IntKind.i64.wrap ((i:Int)+1)=((i+1:Nat):Int):=Zf (by omega) (by omega)
   have hsn:Du (d.take (i+1))=Du (d.take i)++[(c.tok.1,c.tok.2.1,c.tok.2.2)]:=by
    unfold Du
    rw[List.take_take,List.take_take,Nat.min_eq_right (by omega),Nat.min_eq_right (by omega),List.take_add_one,hc]
    simp
   have hl:(Du (d.take i)).length<1000000000000:=by have:=Zne (d.take i);omega
   have ih2:=fun v' e' s'=>ih (i+1) v' e' s' (by omega)
   rw[hsn]at ih2
   clear hsn
   rw[Zn]
   rw[hv0]at g0 ih2
   simp[B.K9,go_sem,g0,g3,g4,h1,h2,RO.run,hrd]
   refine(Zr0 H.Z0 hx.wf (K:=c.k) (N:=c.n) (t:=c.t) hk hn0 hn1 (by omega)).use fun s1 x1=> ?_
   have y1:=hx.trans x1
   simp[go_sem,NO.run]
   refine((hg.ext x1 hx.wf).push y1.nx y1.wf c.tok.1 c.tok.2.1 c.tok.2.2 (k:=1) (by omega) hl).mono ?_
   rintro v2 s2 ⟨o2,f2⟩
   have y2:=y1.Yo f2 (hg.ge)
   simp[go_sem,g0,g3,g4]
   exact ih2 v2 _ s2 y2 o2 (by simp[go_sem,g0]) (by simp[go_sem]) (by simp[go_sem,g4,ek])
theorem Zty (H:B.Xr T) (hwf:st.Wf) {v0:AV} {d:List Dra} (hd:InD st.h v0 d):Jg (call T (.fn 160 [] []) [v0] st) fun v s=>Ext st s∧K6 st s v (Du d):=by
 refine Q3 H.e H.f rfl ?_
 simp[B.Vv,go_sem]
 refine(Zwq H hwf hd (min d.length 40) 0 .Zk _ st (by omega) (.refl hwf) (by simpa [Du] using K6.nil st st) (by simp[go_sem]) (by simp[go_sem]) (by simp[go_sem])).mono ?_
 rintro x e' s' ⟨rfl,hx,hg⟩
 simp[go_sem,Zg,Zm,Zr]
 exact⟨hx.Qr (Nat.le_refl _),hg.Zp hx.wf⟩
end Go.Ev

/- The reference's Print and Same; a token takes octets; all tokens. -/
namespace Go.Ev
open Go
variable {T : Tab} {st : St}
def txT (t:Tok):List UInt8:=Pr t.1 t.2.1 t.2.2
def No (l:List Tok):List UInt8:=Lib.join (l.map txT) [32]
theorem Zvn (xs:List (List UInt8)) (x sep:List UInt8):Lib.join (xs++[x]) sep=if xs=[]then x else Lib.join xs sep++(sep++x):=by
 cases xs with
 | nil=>simp[Lib.join_one]
 | cons y r=>
   rw[if_neg (by simp),List.cons_append,Lib.join_cons,Lib.join_cons]
   simp[Lib.joinTail]
theorem Zg6 (l:List Tok) (t:Tok):No (l++[t])=if l=[]then txT t else No l++(32::txT t):=by
 unfold No
 rw[List.map_append,List.map_singleton,Zvn]
 simp
def OkT (l:List Tok):Prop:=l.length≤40∧∀t∈l,Qg t.1 t.2.1 t.2.2=true∧t.2.2.length≤60
theorem Znr (n:Nat) (h:n<10000000000):(Lib.decDigits n).length≤10:=by
 have aux:∀(k n:Nat),n<10 ^ (k+1)→(Lib.decDigits n).length≤k+1:=by
  intro k
  induction k with
  | zero=>intro n hn;rw[Ws (by simpa using hn)];simp
  | succ k ih=>
    intro n hn
    by_cases h10:n<10
    ·rw[Ws h10];simp
    ·rw[Es (by omega),List.length_append,List.length_singleton]
     have:=ih (n / 10) (by rw[Nat.pow_succ]at hn;omega)
     omega
 exact aux 9 n (by simpa using h)
theorem Zmr:∀x:List UInt8,(x.flatMap Xl).length≤4*x.length
 | []=>Nat.le_refl _
 | c::r=>by
   have:=Zmr r
   have:=(Zdg c).2
   simp only[List.flatMap_cons,List.length_append,List.length_cons]
   omega
theorem Zth (x:List UInt8):(Az x).length≤4*x.length+2:=by
 have:=Zmr x
 unfold Az
 simp only[List.length_cons,List.length_append,List.length_nil]
 omega
theorem Zuv {t:Tok} (h:Qg t.1 t.2.1 t.2.2=true∧t.2.2.length≤60):(txT t).length≤300:=by
 obtain⟨k,n,x⟩:=t
 obtain⟨hr,hl⟩:=h
 simp only at hr hl
 have hb:=Zg8 hr
 have hq:=Zth x
 unfold txT Pr
 simp only
 split
 ·rename_i h1
  have:=hb (.inl h1)
  unfold Lib.itoa
  split
  ·have:=Znr n.natAbs (by omega)
   simp only[List.length_cons];omega
  ·have:=Znr n.toNat (by omega)
   omega
 split
 ·rename_i h2
  have:=hb (.inr h2)
  have h3:=Znr (n.natAbs / 65536) (by omega)
  have h4:=Zmu 17 (n.natAbs % 65536)
  unfold Zdf
  simp only[List.length_append,List.length_cons]
  split <;> simp only[List.length_cons,List.length_nil] <;> omega
 split
 ·simp;omega
 split
 ·simp;omega
 split
 ·omega
 split
 ·simp
 split
 ·simp
 ·omega
theorem Zj8 {l:List Tok} (h:OkT l):(No l).length≤301*l.length:=by
 obtain⟨_,h⟩:=h
 have aux:∀i,i≤l.length→(No (l.take i)).length≤301*i:=by
  intro i
  induction i with
  | zero=>intro _;simp[No,Lib.join_nil]
  | succ i ih=>
    intro hi
    obtain⟨t,ht⟩:∃t,l[i]? =some t:=⟨_,List.getElem?_eq_getElem (by omega)⟩
    have h1:=ih (by omega)
    have h2:=Zuv (h t (List.mem_of_getElem? ht))
    rw[List.take_add_one,ht,show (some t).toList=[t]from rfl,Zg6]
    split
    ·omega
    ·simp only[List.length_append,List.length_cons];omega
 have:=aux l.length (Nat.le_refl _)
 rwa[List.take_length]at this
theorem OkT.take {l:List Tok} (h:OkT l) (i:Nat):OkT (l.take i):=⟨by have:=h.1;rw[List.length_take];omega,fun t ht=>h.2 t (List.mem_of_mem_take ht)⟩
theorem Zrj (H:B.Ls T) {st0:St} (hw0:st0.Wf) {v:AV} {l:List Tok} (hl:OkT l) (hv:Rd st0.h v 3 l.length (D8 l)):∀(m i:Nat) (e:Env) (st1:St),i+m=l.length→Ext st0 st1→Zb e 0=v→Zb e 3= .str (No (l.take i))→Zb e 4= .int .i64 (i:Int)→
  Res (run T (.loop B.Yv) e st1) fun x e' s'=>x= .exit 0∧Ext st0 s'∧Zb e' 3= .str (No l):=by
 intro m
 induction m with
 | zero=>
   intro i e st1 hi hx g0 g3 g4
   have hie:i=l.length:=by omega
   subst hie
   rw[List.take_length]at g3
   have hv1:=hv.ext hx hw0
   rw[Zn]
   rcases hv1 with ⟨rfl,h2,h3⟩ | ⟨n,off,cp,rfl,h2⟩
   ·simp[B.Yv,go_sem,g0,g3,g4,hx,h2]
   ·simp[B.Yv,go_sem,g0,g3,g4,hx]
 | succ m ih=>
   intro i e st1 hi hx g0 g3 g4
   have hil:i<l.length:=by omega
   obtain⟨t,ht⟩:∃t,l[i]? =some t:=⟨_,List.getElem?_eq_getElem hil⟩
   obtain⟨n,off,cp,rfl,hrd⟩:=(hv.ext hx hw0).tok ht
   have h1:(i:Int)<l.length:=by omega
   have ek:IntKind.i64.wrap ((i:Int)+1)=((i+1:Nat):Int):=by
    have:=hl.1
    exact Zf (by omega) (by omega)
   have hrt:=hl.2 t (List.mem_of_getElem? ht)
   have htl:=Zuv hrt
   have hpl:=Zj8 (hl.take i)
   rw[List.length_take]at hpl
   have hsn:No (l.take (i+1))=if i=0 then txT t else No (l.take i)++(32::txT t):=by
    rw[List.take_add_one,ht,show (some t).toList=[t]from rfl,Zg6]
    congr 1
    rw[List.take_eq_nil_iff]
    have:l≠[]:=by rintro rfl;simp at hil
    simp[this]
   have h40:=hl.1
   have hl1:(No (l.take i)).length+1<4611686018427387904:=by omega
   have hl2:(No (l.take i)).length+1+(txT t).length<4611686018427387904:=by omega
   have hl3:(No (l.take i)).length+(txT t).length<4611686018427387904:=by omega
   have hcall:=fun(st':St) (hw:st'.Wf)=>Zl9 (st:=st') H.Jc hw (k:=t.1) (n:=t.2.1) (t:=t.2.2) (by omega) (Zg8 hrt.1)
   have ih2:=fun e' s'=>ih (i+1) e' s' (by omega)
   have h0:i=0→No (l.take i)=[]:=by rintro rfl;rfl
   rw[hsn]at ih2
   clear ih hsn
   rw[show Pr t.1 t.2.1 t.2.2=txT t from rfl]at hcall
   generalize txT t=X at*
   generalize No (l.take i)=P at*
   rw[Zn]
   by_cases hi0:i=0
   ·have hP:=h0 hi0
    subst hi0
    subst hP
    simp[B.Yv,go_sem,g0,g3,g4,h1,RO.run,hrd]
    simp at hrd h1
    simp[h1,hrd,go_sem]
    refine(hcall _ hx.wf).use fun s1 x1=> ?_
    have hX:X.length<4611686018427387904:=by simpa using hl3
    simp[go_sem,g0,g3,g4,hX]
    exact ih2 _ _ (hx.trans x1) (by simp[go_sem,g0]) (by simp[go_sem]) (by simp[go_sem];decide)
   ·have hi1:(0:Int)<(i:Int):=by omega
    have hi1':0<i:=by omega
    simp[B.Yv,go_sem,g0,g3,g4,h1,RO.run,hrd,hi1,hi1',hl1]
    refine(hcall _ hx.wf).use fun s1 x1=> ?_
    have hl2':P.length+(X.length+1)<4611686018427387904:=by omega
    simp[go_sem,g0,g3,g4,hl2,hl2']
    exact ih2 _ _ (hx.trans x1) (by simp[go_sem,g0]) (by simp[go_sem,hi0]) (by simp[go_sem,g4,ek])
theorem Zl2 (H:B.Ls T) (hwf:st.Wf) {v:AV} {l:List Tok} (hl:OkT l) (hv:Rd st.h v 3 l.length (D8 l)):Qa T st (.fn 161 [] []) [v] (.str (No l)):=by
 refine Zs H.e H.f rfl ?_
 simp[B.Uy,go_sem]
 refine(Zrj H hwf hl hv l.length 0 _ st (by simp) (.refl hwf) (by simp[go_sem]) (by simp[go_sem];rfl) (by simp[go_sem])).mono ?_
 rintro x e' s' ⟨rfl,hx,g3⟩
 simp[go_sem,g3,hx]
theorem Zaaj (H:B.Wz T) {st0:St} (hw0:st0.Wf) {v w:AV} {l:List Tok} (hl:l.length<1000000000000) (hv:Rd st0.h v 3 l.length (D8 l)) (hw:Rd st0.h w 3 l.length (D8 l)):∀(m i:Nat) (e:Env) (st1:St),i+m=l.length→Ext st0 st1→Zb e 0=v→Zb e 1=w→Zb e 5= .int .i64 (i:Int)→
  Res (run T (.loop B.U7) e st1) fun x e' s'=>x= .exit 0∧Ext st0 s':=by
 intro m
 induction m with
 | zero=>
   intro i e st1 hi hx g0 g1 g5
   have hie:i=l.length:=by omega
   subst hie
   rw[Zn]
   rcases hv with ⟨rfl,h2,h3⟩ | ⟨n,off,cp,rfl,h2⟩
   ·simp[B.U7,go_sem,g0,g5,hx,h2]
   ·simp[B.U7,go_sem,g0,g5,hx]
 | succ m ih=>
   intro i e st1 hi hx g0 g1 g5
   have hil:i<l.length:=by omega
   obtain⟨t,ht⟩:∃t,l[i]? =some t:=⟨_,List.getElem?_eq_getElem hil⟩
   obtain⟨n,off,cp,hvn,hrd⟩:=(hv.ext hx hw0).tok ht
   obtain⟨n2,off2,cp2,hwn,hrd2⟩:=(hw.ext hx hw0).tok ht
   have h1:(i:Int)<l.length:=by omega
   have ek:IntKind.i64.wrap ((i:Int)+1)=((i+1:Nat):Int):=Zf (by omega) (by omega)
   have heq:Jz [.i .i64,.i .i64,.s] [.int .i64 t.1,.int .i64 t.2.1,.str t.2.2] [.int .i64 t.1,.int .i64 t.2.1,.str t.2.2]=some true:=by
    rw[Lh];simp
   have ih2:=fun e' s'=>ih (i+1) e' s' (by omega)
   rw[Zn]
   rw[hvn]at g0 ih2
   rw[hwn]at g1 ih2
   obtain⟨I,hI⟩:∃I:Int,I=(i:Int):=⟨_,rfl⟩
   rw[←hI]at g5 h1 ek
   have h0:0≤I:=by omega
   have ht:I.toNat=i:=by omega
   simp[B.U7,go_sem,g0,g1,g5,h0,ht,h1,RO.run,hrd,hrd2,heq]
   exact ih2 _ _ (hx.trans (Ext.aside hx.wf 9)) (by simp[go_sem,g0]) (by simp[go_sem,g1]) (by simp[go_sem,g5,ek])
theorem Ztr (H:B.Wz T) (hwf:st.Wf) {v w:AV} {l:List Tok} (hl:l.length<1000000000000) (hv:Rd st.h v 3 l.length (D8 l)) (hw:Rd st.h w 3 l.length (D8 l)):Qa T st (.fn 164 [] []) [v,w] (.bool true):=by
 refine Zs H.e H.f rfl ?_
 have hlv:=hv.lenOf (ev:=fun _=>v) (x:= .t 0) rfl
 have hlw:=hw.lenOf (ev:=fun _=>w) (x:= .t 0) rfl
 have loop:=fun(e:Env) g0 g1 g5=>Zaaj H hwf hl hv hw l.length 0 e st (by simp) (.refl hwf) g0 g1 g5
 rcases hv with ⟨rfl,h2,h3⟩ | ⟨n,off,cp,rfl,h2⟩ <;> rcases hw with ⟨rfl,k2,k3⟩ | ⟨n2,off2,cp2,rfl,k2⟩
 ·simp[B.Ke,go_sem]
  refine(loop _ (by simp[go_sem]) (by simp[go_sem]) (by simp[go_sem])).mono ?_
  rintro x e' s' ⟨rfl,hx⟩
  simp[go_sem,hx]
 ·simp[B.Ke,go_sem,h2]
  refine(loop _ (by simp[go_sem,h2]) (by simp[go_sem,h2]) (by simp[go_sem])).mono ?_
  rintro x e' s' ⟨rfl,hx⟩
  simp[go_sem,hx]
 ·simp[B.Ke,go_sem,k2]
  refine(loop _ (by simp[go_sem,k2]) (by simp[go_sem,k2]) (by simp[go_sem])).mono ?_
  rintro x e' s' ⟨rfl,hx⟩
  simp[go_sem,hx]
 ·simp[B.Ke,go_sem]
  refine(loop _ (by simp[go_sem]) (by simp[go_sem]) (by simp[go_sem])).mono ?_
  rintro x e' s' ⟨rfl,hx⟩
  simp[go_sem,hx]
def okP (t:T3):Prop:=t.2.2=0→0<t.2.1
theorem Gh {e:Int} (h:e≠0):okP (Qt e):=fun h2=>absurd h2 h
theorem Bi (k:Int) (x:List UInt8) {n:Nat} (h:0<n):okP (Xd k x n):=by
 unfold Xd
 split
 ·exact Gh (by decide)
 ·split
  ·exact fun _=>h
  ·exact Gh (by decide)
theorem Zyp (s:List UInt8):okP (Hc s):=by
 cases s with
 | nil=>exact Gh (by decide)
 | cons c R=>
   have hf:∀k l,okP (Zcg k l R):=fun k l=>by
    unfold Zcg
    split
    ·exact Gh (by decide)
    ·exact fun _=>by simp only;omega
   have hcn:∀k l,okP (Dc k l R):=fun k l=>by
    unfold Dc
    split
    ·exact Gh (by decide)
    ·split
     ·exact Gh (by decide)
     ·exact Bi _ _ (by omega)
   have hde:∀(f:Nat) (u:List UInt8×Nat×Int),0<f→okP (Pg f u):=fun f u h=>by
    unfold Pg
    split
    ·exact Bi _ _ (by omega)
    ·split <;> exact Gh (by decide)
   simp only[Hc]
   split
   ·rename_i hc
    subst hc
    unfold O3
    split
    ·rename_i hu
     refine Bi _ _ ?_
     unfold J1 at hu⊢
     simp only[if_true]at hu⊢
     split at hu
     ·simp at hu
     ·rename_i o l he
      have:=I3 he
      split at hu
      ·simp at hu
      ·rename_i h2
       rw[if_neg h2]
       simp only[List.length_cons]
       omega
    ·split <;> exact Gh (by decide)
   split
   ·exact Gh (by decide)
   split
   ·exact fun _=>Nat.one_pos
   split
   ·exact fun _=>Nat.one_pos
   split
   ·exact Bi _ _ (by omega)
   split
   ·unfold Zev
    split
    ·exact Bi _ _ (by omega)
    ·split <;> exact hde _ _ (by omega)
   split
   ·unfold De
    split
    ·exact Bi _ _ (by omega)
    ·exact Gh (by decide)
   split
   ·unfold Pa
    split <;> exact Bi _ _ (by omega)
   split
   ·unfold Zay
    (repeat' split) <;> first | exact hf _ _ | exact hcn _ _ | exact Gh (by decide)
   ·unfold Zhh
    split
    ·rename_i h
     exact Gh h
    ·rename_i h
     intro _
     simp only
     rcases Nat.eq_zero_or_pos (runN Qu (c::R))with h0 | h0
     ·rw[h0]at h
      exact absurd (by simp[Bu]) h
     ·exact h0
theorem Zf4 {s:List UInt8} {i:Nat} {t:Tok} {n:Nat} (h:Xq s (i:Int)=(t,n,0)):i<n∧n≤s.length∧i<s.length:=by
 unfold Xq at h
 split at h
 ·simp[Qt]at h
 split at h
 ·simp[Qt]at h
 rename_i h1 h2
 simp only[Int.toNat_natCast]at h
 have hsk:=A7 false (s.drop i)
 rw[List.length_drop]at hsk
 split at h
 ·simp at h
 ·rename_i h3
  have hp:=Zyp (s.drop (i+skp false (s.drop i)))
  have hle:=Zpb (s.drop (i+skp false (s.drop i)))
  rw[List.length_drop]at hle
  injection h with _ h
  injection h with h4 h5
  have:=hp h5
  omega
theorem Zxw (s:List UInt8) (i:Int):(Xq s i).2.1≤s.length:=by
 unfold Xq
 split
 ·exact Nat.zero_le _
 split
 ·exact Nat.zero_le _
 rename_i h1 h2
 have hsk:=A7 false (s.drop i.toNat)
 rw[List.length_drop]at hsk
 simp only
 split
 ·simp only;omega
 ·have hle:=Zpb (s.drop (i.toNat+skp false (s.drop i.toNat)))
  rw[List.length_drop]at hle
  simp only
  omega
def Dz (s:List UInt8):Nat→Nat→List Tok→List Tok×Nat×Int
 | 0,i,l=>(l,i,4)
 | f+1,i,l=>if(Xq s (i:Int)).2.2=0 then Dz s f (Xq s (i:Int)).2.1 (l++[(Xq s (i:Int)).1])else(l,(Xq s (i:Int)).2.1,(Xq s (i:Int)).2.2)
def Zu2 (s:List UInt8):List Tok×Nat×Int:=
 if(Dz s (s.length+1) 0 []).2.2=4 then((Dz s (s.length+1) 0 []).1,(Dz s (s.length+1) 0 []).2.1,0)else([],(Dz s (s.length+1) 0 []).2.1,(Dz s (s.length+1) 0 []).2.2)
end Go.Ev

/- All tokens: the reference's All. -/
namespace Go.Ev
open Go
variable {T : Tab} {st : St}
def Zny (r:List Tok×Nat×Int):List Tok×Nat×Int:=if r.2.2=4 then(r.1,r.2.1,0)else([],r.2.1,r.2.2)
theorem Ziu (s:List UInt8):Zu2 s=Zny (Dz s (s.length+1) 0 []):=rfl
theorem Zwd (H:B.Nv T) {st0:St} {s:List UInt8} (hs:s.length<1000000000):∀(f i:Nat) (l:List Tok) (v:AV) (e:Env) (st1:St),s.length<f+i→i≤s.length→l.length≤i→Ext st0 st1→K6 st0 st1 v l→Zb e 0= .str s→Zb e 5=v→Zb e 6= .int .i64 (i:Int)→
  Res (run T (.loop B.Hp) e st1) fun x e' s'=>x= .ret∧Ext st0 s'∧K6 st0 s' (Zb e' 2) (Zny (Dz s f i l)).1∧Zb e' 3= .int .i64 ((Zny (Dz s f i l)).2.1:Int)∧Zb e' 4= .int .i64 (Zny (Dz s f i l)).2.2:=by
 intro f
 induction f with
 | zero=>intro i l v e st1 hf hi;omega
 | succ f ih=>
   intro i l v e st1 hf hi hl hx hg g0 g5 g6
   have hn:=Zl6 (st:=st1) H.K1 hx.wf (s:=s) (i:=(i:Int)) (by omega) (by omega) hs
   have hpos:=fun(t:Tok) (n:Nat)=>Zf4 (s:=s) (i:=i) (t:=t) (n:=n)
   rw[Dz]
   generalize Xq s (i:Int)=O at*
   obtain⟨⟨k,n,t⟩,N,er⟩:=O
   simp only
   rw[Zn]
   simp[B.Hp,go_sem,g0,g5,g6]
   refine hn.use fun s1 x1=> ?_
   have y1:=hx.trans x1
   have hg1:=hg.ext x1 hx.wf
   have x2:=Ext.new y1.wf (.cells 134 true [.int .i64 k,.int .i64 n,.str t])
   have y2:=y1.trans x2
   have hg2:=hg1.ext x2 y1.wf
   simp[go_sem,tk3,NO.run,WO.run,RO.run,Vo]
   by_cases h4:er=4
   ·subst h4
    simp[go_sem,g5,Zny,y2,hg2]
   ·by_cases h0:er=0
    ·subst h0
     obtain⟨p1,p2,p3⟩:=hpos (k,n,t) N rfl
     simp[go_sem,g0,g5,RO.run,NO.run,K5]
     refine(hg2.push y2.nx y2.wf k n t (k:=1) (by omega) (by omega)).mono ?_
     rintro v2 s2 ⟨o2,f2⟩
     have y3:=y2.Yo f2 hg2.ge
     simp[go_sem,g0,g5]
     exact ih N (l++[(k,n,t)]) v2 _ s2 (by omega) p2 (by simp;omega) y3 o2 (by simp[go_sem,g0]) (by simp[go_sem]) (by simp[go_sem])
    ·simp[go_sem,g5,Zny,h4,h0,y2]
     exact K6.nil _ _
def Zy0 (st s:St) (r:List Tok×Nat×Int) (v:AV):Prop:=∃w,v= .tuple [w,.int .i64 (r.2.1:Int),.int .i64 r.2.2]∧Ext st s∧K6 st s w r.1
theorem Ztl (H:B.Nv T) (hwf:st.Wf) {s:List UInt8} (hs:s.length<1000000000):Jg (call T (.fn 163 [] []) [.str s] st) fun v s'=>Zy0 st s' (Zu2 s) v:=by
 refine Q3 H.e H.f rfl ?_
 simp[B.X5,go_sem]
 refine(Zwd H hs (st0:=st) (s.length+1) 0 [] .Zk _ st (by omega) (by omega) (by simp) (.refl hwf) (K6.nil _ _) (by simp[go_sem]) (by simp[go_sem]) (by simp[go_sem])).mono ?_
 rintro x e' s' ⟨rfl,hx,hg,g3,g4⟩
 rw[←Ziu]at hg g3 g4
 simp[go_sem,Zg,Zm,Zr,g3,g4]
 exact⟨_,rfl,hx.Qr (Nat.le_refl _),hg.Zp hx.wf⟩
end Go.Ev

/- All tokens: scan.All. -/
namespace Go.Ev
open Go
variable {T : Tab} {st : St}
def AI (st0 s1:St) (s:List UInt8) (O:Z7) (l:List Tok) (a:Nat) (b:Int):Prop:=
 Ext st0 s1∧(∃v,Zh s1.h st0.nx=some (.cells 146 true [v])∧K6 st0 s1 v l)∧Zh s1.h (st0.nx+1)=some (cO a)∧Zh s1.h (st0.nx+2)=some (.cells 30 true [.int .i64 b])∧Zh s1.h (st0.nx+3)=some (.cells 9 false [.str s])∧Zh s1.h (st0.nx+4)=some O
theorem K6.apart {st0 s:St} {v:AV} {l:List Tok} (a:K6 st0 s v l) {m:Nat} {o:Z7} (hg:Zh s.h m=some o) (ho:∀ty es cs,o≠.buf ty es cs):∀n∈v.nms,n≠m:=by
 intro n hn e
 subst e
 rcases a.form with ⟨rfl,_⟩ | ⟨k,rfl,hk,_⟩
 ·cases hn
 ·simp[AV.nms]at hn
  subst hn
  rw[hg]at hk
  injection hk with hk
  exact ho _ _ _ hk
theorem K6.Kx {st0 s:St} {v:AV} {l:List Tok} (a:K6 st0 s v l):Kx v=[v]:=by
 rcases a.form with ⟨h,_⟩ | ⟨n,h,_⟩ <;> rw[h] <;> rfl
theorem AI.ext {st0 s1 s2:St} {s:List UInt8} {O:Z7} {l:List Tok} {a:Nat} {b:Int} (h:AI st0 s1 s O l a b) (x:Ext s1 s2):AI st0 s2 s O l a b:=by
 obtain⟨h1,⟨v,h2,h3⟩,h4,h5,h6,h7⟩:=h
 exact⟨h1.trans x,⟨v,x.get h1.wf h2,h3.ext x h1.wf⟩,x.get h1.wf h4,x.get h1.wf h5,x.get h1.wf h6,x.get h1.wf h7⟩
theorem AI.set {st0 s1:St} {s:List UInt8} {O O':Z7} {l:List Tok} {a:Nat} {b:Int} (h:AI st0 s1 s O l a b) (ho:∀ty es cs,O≠.buf ty es cs):AI st0 ⟨Qi s1.h (st0.nx+4) O',s1.nx⟩ s O' l a b:=by
 obtain⟨h1,⟨v,h2,h3⟩,h4,h5,h6,h7⟩:=h
 refine⟨h1.Qh h7 (by omega),⟨v,(Zl h7 (by omega)).trans h2,h3.Yo (Frm.set h1.wf h7) h1.wf ?_⟩,(Zl h7 (by omega)).trans h4,(Zl h7 (by omega)).trans h5,(Zl h7 (by omega)).trans h6,Zc h7⟩
 intro n hn h
 simp at h
 exact h3.apart h7 ho n hn h
theorem AI.Zp {st0 s1:St} {s:List UInt8} {O:Z7} {l:List Tok} {a:Nat} {b:Int} {c:Nat} (h:AI st0 s1 s O l a b) (hc:st0.nx+5≤c):AI st0 ⟨Go.Ev.Zp c s1.h,s1.nx⟩ s O l a b:=by
 obtain⟨h1,⟨v,h2,h3⟩,h4,h5,h6,h7⟩:=h
 have hlt:∀m,m<st0.nx+5→Zh (Go.Ev.Zp c s1.h) m=Zh s1.h m:=fun m hm=>Z2 (by omega)
 exact⟨h1.Qr (by omega),⟨v,(hlt _ (by omega)).trans h2,h3.Zp h1.wf⟩,(hlt _ (by omega)).trans h4,(hlt _ (by omega)).trans h5,(hlt _ (by omega)).trans h6,(hlt _ (by omega)).trans h7⟩
theorem Zu3 {st0 s1:St} {s:List UInt8} {O:Z7} {l:List Tok} {a:Nat} {b:Int} (h:AI st0 s1 s O l a b) (hO:∀ty es cs,O≠.buf ty es cs) (hl:l.length<1000000000) {q:Nat} (hq:st0.nx+5≤q) {k n:Int} {t:List UInt8} {N:Nat} {er:Int} (hgq:Zh s1.h q=some (.cells 284 true [.int .i64 k,.int .i64 n,.str t,.int .i64 (N:Int),.int .i64 er]))
  {e:Env} (g5:Zb e 5= .ptr st0.nx 0) (g6:Zb e 6= .ptr (st0.nx+1) 0) (g7:Zb e 7= .ptr (st0.nx+2) 0) (g8:Zb e 8= .ptr q 0):
  Res (run T B.Ha e s1) fun x _ s'=>(er=0∧x= .norm∧AI st0 s' s O (l++[(k,n,t)]) N 0)∨(er≠0∧x= .exit 0∧AI st0 s' s O l N er):=by
 obtain⟨h1,⟨v,h2,h3⟩,h4,h5,h6,h7⟩:=h
 have r3:Zo s1.h q 3=some (.int .i64 (N:Int)):=by simp[Zo,hgq]
 have r4:Zo s1.h q 4=some (.int .i64 er):=by simp[Zo,hgq]
 have w6:=Xo (v:= .int .i64 (N:Int)) h4 rfl
 have y6:=h1.Qh h4 (o:= .cells 3 true [.int .i64 (N:Int)]) (by omega)
 have q7:=(Zl (o:= .cells 3 true [.int .i64 (N:Int)]) h4 (show st0.nx+1≠q by omega)).trans hgq
 have r4':Zo (Qi s1.h (st0.nx+1) (.cells 3 true [.int .i64 (N:Int)])) q 4=some (.int .i64 er):=by simp[Zo,q7]
 have p7:=(Zl (o:= .cells 3 true [.int .i64 (N:Int)]) h4 (show st0.nx+1≠st0.nx+2 by omega)).trans h5
 have w7:=Xo (v:= .int .i64 er) p7 rfl
 have y7:=y6.Qh p7 (o:= .cells 30 true [.int .i64 er]) (by omega)
 have other:∀m,m≠st0.nx+1→m≠st0.nx+2→Zh (Qi (Qi s1.h (st0.nx+1) (.cells 3 true [.int .i64 (N:Int)])) (st0.nx+2) (.cells 30 true [.int .i64 er])) m=Zh s1.h m:=fun m m1 m2=>by
  rw[Zl p7 (by omega),Zl h4 (by omega)]
 have z7:=Zc (o:= .cells 30 true [.int .i64 er]) p7
 have z6:=(Zl (o:= .cells 30 true [.int .i64 er]) p7 (show st0.nx+2≠st0.nx+1 by omega)).trans (Zc (o:= .cells 3 true [.int .i64 (N:Int)]) h4)
 have z5:=(other st0.nx (by omega) (by omega)).trans h2
 have zb:=(other (st0.nx+3) (by omega) (by omega)).trans h6
 have zl:=(other (st0.nx+4) (by omega) (by omega)).trans h7
 have zq:=(other q (by omega) (by omega)).trans hgq
 have g1:K6 st0 ⟨Qi s1.h (st0.nx+1) (.cells 3 true [.int .i64 (N:Int)]),s1.nx⟩ v l:=h3.Yo (Frm.set h1.wf h4) h1.wf (by
  intro n hn h
  simp at h
  exact h3.apart h4 (by intro ty es cs h;cases h) n hn h)
 have g2:K6 st0 ⟨Qi (Qi s1.h (st0.nx+1) (.cells 3 true [.int .i64 (N:Int)])) (st0.nx+2) (.cells 30 true [.int .i64 er]),s1.nx⟩ v l:=g1.Yo (Frm.set y6.wf p7) y6.wf (by
  intro n hn h
  simp at h
  exact g1.apart p7 (by intro ty es cs h;cases h) n hn h)
 have x8:=Ext.aside y7.wf 7
 have y8:=y7.trans x8
 have g3:=g2.ext x8 y7.wf
 have rv:=Q8 z5
 have re7:=Q8 z7
 clear g1 g2 other p7 q7
 generalize Qi (Qi s1.h (st0.nx+1) (.cells 3 true [.int .i64 (N:Int)])) (st0.nx+2) (.cells 30 true [.int .i64 er])=h9 at*
 have rq:Z1 h9 q 0 3=some [.int .i64 k,.int .i64 n,.str t]:=by
  simp only[Z1,zq]
  simp
 simp[B.Ha,go_sem,RO.run,WO.run,reI,g5,g6,g7,g8,r3,r4,r4',w6,w7,re7]
 by_cases h0:er=0
 ·subst h0
  simp[go_sem,RO.run,NO.run,g5,g8,rv,rq]
  refine⟨rfl,?_⟩
  refine(g3.push y8.nx y8.wf k n t (k:=1) (by omega) (by omega)).mono ?_
  rintro v2 s2 ⟨o2,f2⟩
  have y9:=y8.Yo f2 g3.ge
  have Zi:∀m o,Zh h9 m=some o→(∀ty es cs,o≠.buf ty es cs)→Zh s2.h m=some o:=fun m o hm ho=>f2.get (st:=⟨h9,s1.nx+7⟩) y8.wf hm (by
   intro hmv
   exact g3.apart (m:=m) hm ho m hmv rfl)
  have k5:=Zi _ _ z5 (by intro ty es cs h;cases h)
  have w5:=Xo (v:=v2) k5 o2.sc
  have hap:=o2.apart k5 (by intro ty es cs h;cases h)
  simp[go_sem,WO.run,g5,o2.Kx,w5]
  refine⟨y9.Qh k5 (Nat.le_refl _),⟨v2,Zc k5,o2.Yo (Frm.set y9.wf k5) y9.wf (by intro n hn h;simp at h;exact hap n hn h)⟩,?_,?_,?_,?_⟩
  ·exact(Zl k5 (by omega)).trans (Zi _ _ z6 (by intro ty es cs h;cases h))
  ·exact(Zl k5 (by omega)).trans (Zi _ _ z7 (by intro ty es cs h;cases h))
  ·exact(Zl k5 (by omega)).trans (Zi _ _ zb (by intro ty es cs h;cases h))
  ·exact(Zl k5 (by omega)).trans (Zi _ _ zl hO)
 ·simp[go_sem,h0]
  refine⟨rfl,?_⟩
  exact⟨y8,⟨v,z5,g3⟩,z6,z7,zb,zl⟩
theorem Zaat (h:Heap) (m ty:Nat) (l:Bool) (a b c d e:AV) {k n N er:Int} {t:List UInt8}:Z5 ((m,.cells ty l [a,b,c,d,e])::h) m 0 [.int .i64 k,.int .i64 n,.str t,.int .i64 N,.int .i64 er]=some ((m,.cells ty l [.int .i64 k,.int .i64 n,.str t,.int .i64 N,.int .i64 er])::h):=by
 rw[Zdl (ty:=ty) (l:=l) (cs:=[a,b,c,d,e]) (vs:=[.int .i64 k,.int .i64 n,.str t,.int .i64 N,.int .i64 er]) (by simp[Ze]) rfl rfl];simp[Jv]
theorem Zr2 (H:B.Gb T) {st0:St} {s:List UInt8} (hs:s.length<1000000000) {E:Env} {assign body:Zx} (hb:body=B.Ha) (has:assign= .Zd [⟨some 8,none,.n (.alloc 284 true [.int .i64 0,.int .i64 0,.str [],.int .i64 0,.int .i64 0])⟩,⟨none,none,.w (.store 5 (.t 8) (.t 11))⟩])
  (g5:Zb E 5= .ptr st0.nx 0) (g6:Zb E 6= .ptr (st0.nx+1) 0) (g7:Zb E 7= .ptr (st0.nx+2) 0) {R:List Tok×Nat×Int}:∀(f i:Nat) (l:List Tok) (a:Nat) (b:Int) (e:Env) (st1:St),s.length<f+i→i≤s.length→l.length≤i→R=Dz s f i l→AI st0 st1 s (.loop .ready E [11] assign body) l a b→Zb e 0= .yield (st0.nx+4)→Zb e 1= .ptr (st0.nx+3) 0→Zb e 3= .int .i64 (i:Int)→
  Res (run T (.loop B.Ei) e st1) fun x _ s'=>x= .ret∧AI st0 s' s (.loop (.done (.exit 0)) E [11] assign body) R.1 R.2.1 R.2.2:=by
 intro f
 induction f with
 | zero=>intro i l a b e st1 hf hi;omega
 | succ f ih=>
   intro i l a b e st1 hf hi hl hR hI g0 g1 g3
   have hx:=hI.1
   have hn:=Zlw (st:=st1) H.Mm hx.wf (s:=s) (i:=(i:Int)) (by omega) (by omega) hs
   have hpos:=fun(t:Tok) (n:Nat)=>Zf4 (s:=s) (i:=i) (t:=t) (n:=n)
   rw[Dz]at hR
   generalize Xq s (i:Int)=O at*
   obtain⟨⟨k,n,t⟩,N,er⟩:=O
   simp only at hR
   have rb:=Q8 hI.2.2.2.2.1
   rw[Zn]
   simp[B.Ei,go_sem,g0,g1,g3,RO.run,rb]
   refine hn.use fun s1 x1=> ?_
   have hI1:=hI.ext x1
   have x2:=Ext.new hI1.1.wf (.cells 134 true [.int .i64 k,.int .i64 n,.str t])
   have hI2:=hI1.ext x2
   simp[go_sem,tk3,NO.run,WO.run,RO.run,Vo,K5]
   refine(Ob hI2.2.2.2.2.2 rfl ?_ (Q:=fun v s'=>(er=0∧v= .bool true∧AI st0 s' s (.loop .ready E [11] assign body) (l++[(k,n,t)]) N 0)∨(er≠0∧v= .bool false∧AI st0 s' s (.loop (.done (.exit 0)) E [11] assign body) l N er))).mono ?_
   ·have x3:=Ext.new hI2.1.wf (.cells 284 true [.int .i64 k,.int .i64 n,.str t,.int .i64 (N:Int),.int .i64 er])
    have hI3:=hI2.ext x3
    have hnx:st0.nx+5≤s1.nx+1:=by
     have:=hI1.1.wf.lt _ _ hI1.2.2.2.2.2
     omega
    have hq:Zh ((s1.nx+1,Z7.cells 284 true [.int .i64 k,.int .i64 n,.str t,.int .i64 (N:Int),.int .i64 er])::(s1.nx,.cells 134 true [.int .i64 k,.int .i64 n,.str t])::s1.h) (s1.nx+1)=some (.cells 284 true [.int .i64 k,.int .i64 n,.str t,.int .i64 (N:Int),.int .i64 er]):=by simp[Ze]
    generalize hS:(⟨(s1.nx+1,Z7.cells 284 true [.int .i64 k,.int .i64 n,.str t,.int .i64 (N:Int),.int .i64 er])::(s1.nx,.cells 134 true [.int .i64 k,.int .i64 n,.str t])::s1.h,s1.nx+1+1⟩:St)=s3 at hI3
    rw[show ((s1.nx+1,Z7.cells 284 true [.int .i64 k,.int .i64 n,.str t,.int .i64 (N:Int),.int .i64 er])::(s1.nx,.cells 134 true [.int .i64 k,.int .i64 n,.str t])::s1.h)=s3.h by rw[←hS]]at hq
    have hrd:=fun(e:Env) k5 k6 k7 k8=>Zu3 (T:=T) (hI3.set (O':= .loop .busy E [11] assign body) (by intro ty es cs h;cases h)) (by intro ty es cs h;cases h) (by omega) hnx ((Zl hI3.2.2.2.2.2 (by omega)).trans hq) (e:=e) k5 k6 k7 k8
    have hl4:=hI3.2.2.2.2.2
    subst has hb
    simp[go_sem,NO.run,WO.run,Zaat,hS]
    refine⟨hl4,?_⟩
    refine(hrd _ (by simp[go_sem,g5]) (by simp[go_sem,g6]) (by simp[go_sem,g7]) (by simp[go_sem])).mono ?_
    rintro x e' s4 (⟨rfl,rfl,hI4⟩ | ⟨h0,rfl,hI4⟩)
    ·exact⟨hI4.2.2.2.2.2,.inl ⟨rfl,rfl,hI4.set (by intro ty es cs h;cases h)⟩⟩
    ·exact⟨hI4.2.2.2.2.2,.inr ⟨h0,rfl,hI4.set (by intro ty es cs h;cases h)⟩⟩
   ·rintro v s2 (⟨rfl,rfl,hI3⟩ | ⟨h0,rfl,hI3⟩)
    ·obtain⟨p1,p2,p3⟩:=hpos (k,n,t) N rfl
     rw[if_pos rfl]at hR
     simp[go_sem,g0,g1]
     exact ih N _ N 0 _ s2 (by omega) p2 (by simp;omega) hR hI3 (by simp[go_sem,g0]) (by simp[go_sem,g1]) (by simp[go_sem])
    ·rw[if_neg h0]at hR
     subst hR
     simp[go_sem,hI3]
end Go.Ev

/- scan.All told. -/
namespace Go.Ev
open Go
variable {T : Tab} {st : St}
theorem Zr1 (H:B.Fz T) (hwf:st.Wf) {s:List UInt8} {Q:AV→St→Prop} (h:Q (.fn 192 [] [.ptr st.nx 0]) ⟨(st.nx,.cells 9 false [.str s])::st.h,st.nx+1⟩):Jg (call T (.fn 178 [] []) [.str s] st) Q:=by
 refine Q3 H.e H.f rfl ?_
 have hd:Zp st.nx ((st.nx,Z7.cells 9 false [.str s])::st.h)=(st.nx,Z7.cells 9 false [.str s])::st.h:=by
  have:Kk st.nx ((st.nx,Z7.cells 9 false [.str s])::st.h)=[]:=by
   simp only[Kk]
   exact Uo fun n o ho=>hwf.lt n o ho
  rw[Xj,this,Ed]
 simp[B.Nr,go_sem,NO.run,AV.nb,hd]
 exact h
theorem Zmf (H:B.Gb T) {st0 sA:St} {s:List UInt8} (hs:s.length<1000000000) {E:Env} {assign body:Zx} (hb:body=B.Ha) (has:assign= .Zd [⟨some 8,none,.n (.alloc 284 true [.int .i64 0,.int .i64 0,.str [],.int .i64 0,.int .i64 0])⟩,⟨none,none,.w (.store 5 (.t 8) (.t 11))⟩])
  (g5:Zb E 5= .ptr st0.nx 0) (g6:Zb E 6= .ptr (st0.nx+1) 0) (g7:Zb E 7= .ptr (st0.nx+2) 0) (hA:st0.nx+5≤sA.nx) (hI:AI st0 sA s (.loop .ready E [11] assign body) [] 0 0) {Q:St→Prop}
  (hQ:∀s',AI st0 s' s (.loop (.done (.exit 0)) E [11] assign body) (Dz s (s.length+1) 0 []).1 (Dz s (s.length+1) 0 []).2.1 (Dz s (s.length+1) 0 []).2.2→Q s'):
  Jg (call T (.fn 192 [] [.ptr (st0.nx+3) 0]) [.yield (st0.nx+4)] sA) fun _ s'=>Q s':=by
 refine S6 H.e H.f rfl rfl ?_
 simp[B.Mn,go_sem]
 refine(Zr2 H hs hb has g5 g6 g7 (R:=Dz s (s.length+1) 0 []) (s.length+1) 0 [] 0 0 _ sA (by omega) (by omega) (by simp) rfl hI (by simp[go_sem]) (by simp[go_sem]) (by simp[go_sem])).mono ?_
 rintro x e' s' ⟨rfl,h⟩
 simp[go_sem]
 exact hQ _ (h.Zp hA)
theorem Zy9 (H:B.C6 T) (hwf:st.Wf) {s:List UInt8} (hs:s.length<1000000000):Jg (call T (.fn 162 [] []) [.str s] st) fun v s'=>Zy0 st s' (Zu2 s) v:=by
 refine Q3 H.e H.f rfl ?_
 have a2:Ext st ⟨(st.nx+2,Z7.cells 30 true [.int .i64 0])::(st.nx+1,.cells 3 true [.int .i64 0])::(st.nx,.cells 146 true [.Zk])::st.h,st.nx+3⟩:=by
  have a0:=Ext.new hwf (.cells 146 true [.Zk])
  have a1:=a0.trans (Ext.new a0.wf (.cells 3 true [.int .i64 0]))
  have a2:=a1.trans (Ext.new a1.wf (.cells 30 true [.int .i64 0]))
  simpa only[Nat.add_assoc,Nat.reduceAdd] using a2
 simp[B.R6,go_sem,NO.run,WO.run,RO.run,Nat.add_assoc,Z5,Ze,Jv,K0,Zo]
 refine Zr1 H.Nr a2.wf ?_
 simp[go_sem]
 refine Ez ?_
 have a3:=a2.trans (Ext.new a2.wf (.cells 9 false [.str s]))
 simp only[Nat.add_assoc,Nat.reduceAdd]at a3
 simp only[Nat.add_assoc,Nat.reduceAdd]
 generalize hE:([(10,AV.fn 192 [] [AV.ptr (st.nx+3) 0]),(9,AV.str s),(7,AV.ptr (st.nx+2) 0),(6,AV.ptr (st.nx+1) 0),(5,AV.ptr st.nx 0),(4,AV.int IntKind.i64 0),(3,AV.int IntKind.i64 0),(2,AV.Zk),(0,AV.str s)]:Env)=E
 have g10:AO.ev E (.t 10)= .fn 192 [] [.ptr (st.nx+3) 0]:=by rw[←hE];simp[go_sem]
 have g5:Zb E 5= .ptr st.nx 0:=by rw[←hE];simp[go_sem]
 have g6:Zb E 6= .ptr (st.nx+1) 0:=by rw[←hE];simp[go_sem]
 have g7:Zb E 7= .ptr (st.nx+2) 0:=by rw[←hE];simp[go_sem]
 clear hE
 rw[g10]
 generalize has:(Zx.Zd [{dst:=some 8,guard:=none,op:=MO.n (NO.alloc 284 true [AV.int IntKind.i64 0,AV.int IntKind.i64 0,AV.str [],AV.int IntKind.i64 0,AV.int IntKind.i64 0])},{dst:=none,guard:=none,op:=MO.w (WO.store 5 (AO.t 8) (AO.t 11))}])=assign
 generalize hbo:B.Ha=body
 have a4:=a3.trans (Ext.new a3.wf (.loop .ready E [11] assign body))
 simp only[Nat.add_assoc,Nat.reduceAdd]at a4
 refine(Zmf H.Nr.Mn hs hbo.symm has.symm g5 g6 g7 (Nat.le_refl _) (st0:=st) ⟨a4,⟨.Zk,by simp[Ze],K6.nil _ _⟩,by simp[Ze,cO],by simp[Ze],by simp[Ze],by simp[Ze]⟩ (Q:=fun s1=>AI st s1 s (.loop (.done (.exit 0)) E [11] assign body) (Dz s (s.length+1) 0 []).1 (Dz s (s.length+1) 0 []).2.1 (Dz s (s.length+1) 0 []).2.2) (fun s' h=>h)).mono ?_
 rintro _ s1 ⟨h1,⟨v,h2,h3⟩,h4,h5,h6,h7⟩
 rw[Ziu]
 generalize Dz s (s.length+1) 0 []=R at*
 obtain⟨l,n,er⟩:=R
 simp only at h3 h4 h5
 have hdl:∀m,m≠st.nx+4→Zh (Yk s1.h (st.nx+4)) m=Zh s1.h m:=fun m hm=>by rw[Yw,if_neg (by omega)]
 have yd:Ext st ⟨Yk s1.h (st.nx+4),s1.nx⟩:=h1.Yo (Frm.Yk h1.wf _) (by intro m hm;simp at hm;omega)
 have gd:K6 st ⟨Yk s1.h (st.nx+4),s1.nx⟩ v l:=h3.Yo (Frm.Yk h1.wf _) h1.wf (by
  intro k hk h
  simp at h
  exact h3.apart h7 (by intro ty es cs h;cases h) k hk h)
 have r5:=Q8 ((hdl _ (by omega)).trans h2)
 have r6:=Q8 ((hdl _ (by omega)).trans h4)
 have r7:=Q8 ((hdl _ (by omega)).trans h5)
 refine .inr ⟨_,h7,?_⟩
 have yz:=yd.trans (Ext.aside yd.wf 5)
 have gz:=gd.ext (Ext.aside yd.wf 5) yd.wf
 by_cases h:er=4
 ·subst h
  simp[go_sem,RO.run,g5,g6,g7,r5,r6,r7,Zny]
  simp[go_sem,Zg,Zm,Zr,B.R6,Zy0]
  exact⟨yz.Qr (Nat.le_refl _),gz.Zp yz.wf⟩
 ·simp[go_sem,RO.run,g5,g6,g7,r5,r6,r7,Zny,h]
  simp[go_sem,Zg,Zm,Zr,B.R6,Zy0]
  exact⟨yz.Qr (Nat.le_refl _),K6.nil _ _⟩
end Go.Ev

/- ScanAlls told, where works holds. -/
namespace Go.Ev
open Go
variable {T : Tab} {st : St}
theorem Zw8 (s:List UInt8):(Zu2 s).1.length≤s.length∧(Zu2 s).2.1≤s.length:=by
 have aux:∀(f i:Nat) (l:List Tok),i≤s.length→l.length≤i→(Dz s f i l).1.length≤s.length∧(Dz s f i l).2.1≤s.length:=by
  intro f
  induction f with
  | zero=>intro i l hi hl;exact⟨by simp[Dz];omega,hi⟩
  | succ f ih=>
    intro i l hi hl
    have hpos:=fun(t:Tok) (n:Nat)=>Zf4 (s:=s) (i:=i) (t:=t) (n:=n)
    have hle:=Zxw s (i:Int)
    rw[Dz]
    generalize Xq s (i:Int)=O at*
    obtain⟨t,n,er⟩:=O
    simp only at hle⊢
    split
    ·rename_i h0
     subst h0
     obtain⟨p1,p2,p3⟩:=hpos t n rfl
     exact ih n _ p2 (by simp;omega)
    ·exact⟨by simp only;omega,hle⟩
 have:=aux (s.length+1) 0 [] (by omega) (by simp)
 rw[Ziu]
 unfold Zny
 split
 ·exact this
 ·exact⟨by simp,this.2⟩
theorem Zza (H:B.Mo T) {st0:St} {sA sB:List UInt8} (hA:sA.length≤1000000) (hB:sB.length≤1000000):∀(m j:Nat) (e:Env) (st1:St),j+m=2→Ext st0 st1→Zb e 42= .agg [.str sA,.str sB]→Zb e 43= .int .i64 (j:Int)→
  Res (run T (.loop B.Um) e st1) fun x e' s'=>x= .exit 0∧Ext st0 s':=by
 intro m
 induction m with
 | zero=>
   intro j e st1 hj hx g42 g43
   have:j=2:=by omega
   subst this
   rw[Zn]
   simp[B.Um,go_sem,g42,g43,hx]
 | succ m ih=>
   intro j e st1 hj hx g42 g43
   have h3:(j:Int)<2:=by omega
   obtain⟨S,hS,hb⟩:∃S:List UInt8,[sA,sB][j]? =some S∧S.length≤1000000:=by
    have:j=0∨j=1:=by omega
    rcases this with rfl | rfl
    ·exact⟨sA,rfl,hA⟩
    ·exact⟨sB,rfl,hB⟩
   have hget2:[AV.str sA,.str sB][j]? =some (.str S):=by
    have:=congrArg (Option.map AV.str) hS
    rw[←List.getElem?_map]at this
    exact this
   have ek:IntKind.i64.wrap ((j:Int)+1)=((j+1:Nat):Int):=Zf (by omega) (by omega)
   have ih2:=fun e' s'=>ih (j+1) e' s' (by omega)
   obtain⟨J,hJ⟩:∃J:Int,J=(j:Int):=⟨_,rfl⟩
   rw[←hJ]at g43 h3 ek
   have hJ0:(0:Int)≤J:=by omega
   have hJt:J.toNat=j:=by omega
   have hal:=Zw8 S
   have c1:=fun(st':St) (hw:st'.Wf)=>Zy9 (st:=st') H.R6 hw (s:=S) (by omega)
   have c2:=fun(st':St) (hw:st'.Wf)=>Ztl (st:=st') H.X5 hw (s:=S) (by omega)
   generalize Zu2 S=R at*
   obtain⟨l,n,er⟩:=R
   simp only at hal
   clear ih hj hS
   rw[Zn]
   simp[B.Um,go_sem,g42,g43,h3,hJ0,hJt,hget2]
   refine(c1 _ hx.wf).mono ?_
   rintro _ s1 ⟨w1,rfl,x1,o1⟩
   have y1:=hx.trans x1
   simp[go_sem]
   refine(c2 _ x1.wf).mono ?_
   rintro _ s2 ⟨w2,rfl,x2,o2⟩
   have y2:=y1.trans x2
   simp[go_sem]
   refine(Ztr H.Ke x2.wf (l:=l) (by omega) (o1.rd.ext x2 x1.wf) o2.rd).use fun s3 x3=> ?_
   simp[go_sem]
   exact ih2 _ _ (y2.trans x3) (by simp[go_sem,g42]) (by simp[go_sem,g43,ek])
theorem Zw9 (H:B.Mo T) (hwf:st.Wf) {src:List UInt8} (hs:src.length<1000000000000000) {v:AV} {d:List Dra} (hv:InD st.h v d) {K B0:Nat} (hK:K<65536) (hB:B0<256)
  (hworks:Jg (call T (.fn 157 [] []) [] st) fun v s=>v= .bool true∧Ext st s):Jg (call T (.fn 151 [] []) [.str src,v,.int .u16 (K:Int),.int .u8 (B0:Int)] st) fun v _=>v= .bool true:=by
 refine Q3 H.e H.f rfl ?_
 simp[B.Uh,go_sem]
 refine hworks.mono ?_
 rintro _ s1 ⟨rfl,x1⟩
 simp[go_sem]
 refine(Zty H.Vv x1.wf (hv.ext x1 hwf)).mono ?_
 rintro w1 s2 ⟨x2,o2⟩
 have y2:=x1.trans x2
 have hok:OkT (Du d):=⟨Zne d,Zr4 hv.2⟩
 have hpl:=Zj8 hok
 have h40:=hok.1
 simp[go_sem]
 refine(Zl2 H.Uy x2.wf hok o2.rd).use fun s3 x3=> ?_
 generalize No (Du d)=P at*
 have hP:P.length+1<4611686018427387904:=by omega
 obtain⟨W,hW⟩:∃W,W=P++[32]:=⟨_,rfl⟩
 have hWl:W.length=P.length+1:=by rw[hW];simp
 have x4:=Ext.new x3.wf (.buf 5 1 (u8s W))
 have y4:=y2.trans (x3.trans x4)
 obtain⟨L,hL⟩:∃L:Int,L=(W.length:Int):=⟨_,rfl⟩
 obtain⟨r,hr⟩:∃r:Nat,r=K % W.length:=⟨_,rfl⟩
 have hrl:r<W.length:=by rw[hr];exact Nat.mod_lt _ (by omega)
 have wK:IntKind.i64.wrap (K:Int)=(K:Int):=Zf (by omega) (by omega)
 have hm:(K:Int).tmod L=(r:Int):=by
  rw[hL,Int.tmod_eq_emod_of_nonneg (by omega),hr];omega
 have hL0:¬L=0:=by omega
 have hrL:(r:Int)<L:=by omega
 have hg4:Zh ((s3.nx,Z7.buf 5 1 (u8s W))::s3.h) s3.nx=some (.buf 5 1 (u8s W)):=by simp[Ze]
 have hset4:(u8s W).set r (.int .u8 (B0:Int))=u8s (W.set r (UInt8.ofNat B0)):=by
  unfold u8s
  rw[List.map_set]
  congr 1
  have:(UInt8.ofNat B0).toNat=B0:=by rw[UInt8.toNat_ofNat',Nat.mod_eq_of_lt hB]
  rw[this]
 have w4:=Zyu (v:= .int .u8 (B0:Int)) hg4 rfl (by rw[Re];exact hrl)
 rw[hset4]at w4
 have hW2:(W.set r (UInt8.ofNat B0)).length=W.length:=List.length_set
 generalize W.set r (UInt8.ofNat B0)=W2 at*
 have y5:=y4.Qh (o:= .buf 5 1 (u8s W2)) hg4 (by have:=y2.nx;have:=x3.nx;omega)
 have g5:=Zc (o:= .buf 5 1 (u8s W2)) hg4
 have r5:Z1 (Qi ((s3.nx,Z7.buf 5 1 (u8s W))::s3.h) s3.nx (.buf 5 1 (u8s W2))) s3.nx 0 W.length=some (u8s W2):=by
  simp only[Z1,g5,Re]
  rw[if_pos (by omega),List.drop_zero,List.take_of_length_le (by rw[Re];omega)]
 have hu8:=Kb W2
 simp only at y5
 have hmap:List.map (fun b:UInt8=>AV.int .u8 (b.toNat:Int)) W=u8s W:=rfl
 obtain⟨q,hq⟩:∃q,q=min src.length 300:=⟨_,rfl⟩
 have hqm:(if(300:Int)<(src.length:Int)then 300 else(src.length:Int))=(q:Int):=by rw[hq];split <;> omega
 have hqs:Q6 src none (some (.int .i64 (q:Int)))=some (.str (src.take q)):=by rw[E7 (by omega) (by omega)];simp
 have hA:(src.take q).length≤300:=by simp;omega
 have hW3:W2.length≤1000000:=by omega
 have hr0:(0:Int)≤(r:Int):=by omega
 clear hr hWl hW2 hpl hset4 hq
 simp[go_sem,hP,hW.symm,hmap,←hL,wK,hL0,hm,hrL,WO.run,w4,RO.run,r5,hu8,hqm,hqs]
 refine(Zza H (st0:=st) (sA:=src.take q) (sB:=W2) (by omega) hW3 2 0 _ _ (by omega) (y5.trans (Ext.aside y5.wf 9)) (by simp[go_sem]) (by simp[go_sem])).mono ?_
 rintro x e s4 ⟨rfl,x9⟩
 simp[go_sem]
end Go.Ev
