/- ascii.Unbase85 told. -/
import Derived.Test.YthckfhllgpfidaaGreatDoorP09
import Derived.Test.YthckfhllgpfidaaGreatDoorP03
import Derived.Test.YthckfhllgpfidaaGreatDoorP06
import Derived.Test.YthckfhllgpfidaaGreatDoorP07
namespace Go.Ev
open Go
set_option linter.unusedSimpArgs false
set_option linter.unusedSectionVars false
set_option linter.unusedVariables false
variable {T : Tab} {st : St}
abbrev TX:=List UInt8×List UInt8×Bool
def charS (o pt:List UInt8):Option (Bool×TX):=
 if pt.length=5 then if v85 pt 0<4294967296 then some (false,(o++oct4 (v85 pt 0),[],false))else none else some (false,(o,pt,false))
def tensStep (x:TX) (c:UInt8):Option (Bool×TX):=
 if x.2.2=true then if c=62 then(closeF x.2.1).map fun d=>(true,(x.1++d,[],true))else none
 else if c=126 then some (false,(x.1,x.2.1,true))
 else if c=122 then if x.2.1.length=0 then some (false,(x.1++[0,0,0,0],[],false))else none
 else if c.toNat<33∨117<c.toNat then none
 else charS x.1 (x.2.1++[c])
def tensOut (x:TX):List UInt8:=x.1
structure TI (st0:St) (p q:Nat) (x:TX) (s:St) (vb vp:AV):Prop where
 ext:Ext st0 s
 b:BV 35 0 [] st0 s q vb x.1
 bp:BV 307 0 [.bool x.2.2] st0 s p vp x.2.1
 pq:p≠q
 pb:p∉vb.nms
 qp:q∉vp.nms
 d:∀n∈vb.nms,n∉vp.nms
 pl:x.2.1.length≤5
 pc:∀c∈x.2.1,33≤c.toNat
def tensI (st0:St) (p q:Nat) (x:TX) (s:St):Prop:=x.2.1.length≤4∧∃vb vp,TI st0 p q x s vb vp
theorem oct4_len (n:Nat):(oct4 n).length=4:=rfl
theorem closeF_len {pt d:List UInt8} (h:closeF pt=some d):d.length≤4:=by
 unfold closeF at h
 split at h
 ·cases h
 ·split at h
  ·injection h with h;subst h;simp
  ·split at h
   ·injection h with h;subst h;rw[List.length_take,oct4_len];omega
   ·cases h
theorem wr_p {h:Heap} {p:Nat} {a b:AV} (g:hget h p=some (.cells 307 false [a,b])) (x:AV) (hx:x.sc=true):wrCells h p 0 [x]=some (hset h p (.cells 307 false [x,b])):=by
 rw[wr_cells g hx (by simp)];rfl
theorem TI.loc {st0 s:St} {p q:Nat} {x:TX} {vb vp:AV} (a:TI st0 p q x s vb vp) {c:Nat} (hc:st0.nx≤c):TI st0 p q x ⟨dropLoc c s.h,s.nx⟩ vb vp:=
 ⟨a.ext.dropGe hc,a.b.dropLoc a.ext.wf,a.bp.dropLoc a.ext.wf,a.pq,a.pb,a.qp,a.d,a.pl,a.pc⟩
theorem TI.up {st0 s s':St} {p q:Nat} {x:TX} {vb vp:AV} (a:TI st0 p q x s vb vp) (f:Ext s s'):TI st0 p q x s' vb vp:=
 ⟨a.ext.trans f,a.b.ext f a.ext.wf,a.bp.ext f a.ext.wf,a.pq,a.pb,a.qp,a.d,a.pl,a.pc⟩
theorem TI.safe {st0 s:St} {p q:Nat} {x:TX} {vb vp:AV} (a:TI st0 p q x s vb vp) {m:Nat} {o:AObj} (ho:hget s.h m=some o) (hs:Safe o):m∉vb.nms∧m∉vp.nms:=by
 refine⟨fun h=> ?_,fun h=> ?_⟩
 ·rcases a.b.grow.nms h with ⟨ty,k⟩ | k <;> rw[ho]at k <;> injection k with k
  ·exact hs.1 _ _ k
  ·exact hs.2 _ _ _ k
 ·rcases a.bp.grow.nms h with ⟨ty,k⟩ | k <;> rw[ho]at k <;> injection k with k
  ·exact hs.1 _ _ k
  ·exact hs.2 _ _ _ k
theorem TI.emit (H1:B.H_ascii_read_ascii_tens_1 T) {st0 s:St} {p q:Nat} {x:TX} {vb vp:AV} (a:TI st0 p q x s vb vp) {m:List UInt8} (hm:m.length=4) (ho:x.1.length≤1000000) {n:Nat} {ty:Nat} {cp:Cap} (hn:hget s.h n=some (.cells ty false (u8s m))):
  CRes (call T (.fn 222 [] [.ptr q 0]) [.slice n 0 4 cp] s) fun _ s'=>(∃vb',TI st0 p q (x.1++m,x.2) s' vb' vp)∧∀k o,k≠q→k∉vb.nms→hget s.h k=some o→hget s'.h k=some o:=by
 have hrd:Rd s.h (.slice n 0 4 cp) 1 m.length (u8s m):= .inr ⟨n,0,cp,by rw[hm],by rw[hm];exact rd_all hn (by rw[u8s_len,hm])⟩
 refine(emitV H1 a.ext hrd a.b (by omega)).mono ?_
 rintro _ s' ⟨y,⟨vb',b',mi⟩,k⟩
 refine⟨⟨vb',y,b',⟨a.bp.ge,k p _ a.pq a.pb a.bp.get,?_,a.bp.ap⟩,a.pq,?_,a.qp,?_,a.pl,a.pc⟩,k⟩
 ·
  obtain⟨⟨n1,h1⟩,h2,h3⟩:=a.bp.grow
  refine⟨⟨n1,?_⟩,h2,h3⟩
  rcases h1 with ⟨e1,e2,e3⟩ | ⟨e1,e2,e3⟩ | ⟨ty',e1,e2,e3⟩
  ·exact .nil e1 e2 e3
  ·have hnp:n1∈vp.nms:=by rw[e1];simp[AV.nms]
   exact .buf e1 (k n1 _ (fun e=>a.qp (e▸hnp)) (fun e=>a.d n1 e hnp) e2) e3
  ·exact absurd e1 (h3 _ _ _ _)
 ·intro h
  rcases mi p h with h | h
  ·exact a.pb h
  ·have:=a.ext.wf.lt _ _ a.bp.get;omega
 ·intro n hn hn2
  rcases mi n hn with h | h
  ·exact a.d n h hn2
  ·have:=a.bp.grow.lt a.ext.wf n hn2;omega
theorem TI.push {st0 s:St} {p q:Nat} {o pt:List UInt8} {vb vp:AV} (a:TI st0 p q (o,pt,false) s vb vp) (h4:pt.length≤4) {c:UInt8} (hc:33≤c.toNat):
  CRes (aappend 5 1 1 ⟨(s.nx,.cells 5 false [.int .u8 (c.toNat:Int)])::s.h,s.nx+1⟩ vp (.slice s.nx 0 1 (.known 1))) fun v2 s2=>acells v2=[v2]∧∃h',wrCells s2.h p 0 [v2]=some h'∧TI st0 p q (o,pt++[c],false) ⟨h',s2.nx⟩ vb v2∧
   ∀m o,m≠p→hget s.h m=some o→Safe o→hget h' m=some o:=by
 refine(a.bp.grow.push2 a.ext.nx a.ext.wf (c:=c) (by show pt.length<_;omega)).mono ?_
 rintro v2 s2 ⟨g2,f2,m2⟩
 have y2:=a.ext.frm f2 a.bp.grow.ge
 have hp2:=f2.get a.ext.wf a.bp.get a.bp.ap
 have b2:=a.b.frm f2 a.ext.wf a.qp a.d
 have hpv:p∉v2.nms:=g2.apart hp2 (x:= .bool false) (by simp) (by simp)
 have hqv:q∉v2.nms:=g2.apart b2.get (x:=vb) (by simp) b2.grow.notint
 have fs:=Frm.set y2.wf hp2 (o:= .cells 307 false [v2,.bool false])
 refine⟨g2.acells,_,wr_p hp2 v2 g2.sc,⟨y2.setNew hp2 a.bp.ge,b2.frm fs y2.wf (by simpa using Ne.symm a.pq) (fun n hn=>by simp;rintro rfl;exact a.pb hn),⟨a.bp.ge,hget_hset_self hp2,g2.frm fs y2.wf (fun n hn=>by simp;rintro rfl;exact hpv hn),hpv⟩,a.pq,a.pb,hqv,?_,by simp;omega,?_⟩,?_⟩
 ·intro n hn hn2
  rcases m2 n hn2 with h | h
  ·exact a.d n hn h
  ·have:=a.b.grow.lt a.ext.wf n hn;omega
 ·intro d hd
  rcases List.mem_append.1 hd with h | h
  ·exact a.pc d h
  ·simp at h;subst h;exact hc
 ·intro m o hm ho hs
  rw[hget_hset_ne hp2 (by omega)]
  exact f2.get a.ext.wf ho (a.safe ho hs).2
theorem tensDec (H:B.H_ascii_tens_take T) (H1:B.H_ascii_read_ascii_tens_1 T) {st0:St} {p q:Nat}:Dec T st0 p q 217 222 (tensI st0 p q) tensOut tensStep where
 ext:=fun x s ⟨_,vb,vp,h⟩=>h.ext
 bx:=fun x s ⟨_,vb,vp,h⟩=>h.b.bx
 frm:=fun x s s' S ⟨h4,vb,vp,h⟩ f hS=>by
  have hn:∀v:AV,∀l:List UInt8,Grow st0 s v l→∀n∈v.nms,n∉S:=fun v l g n hn hm=>by
   obtain⟨_,_,_,h2⟩:=hS n hm
   rcases g.nms hn with ⟨ty,k⟩ | k
   ·exact(h2 _ k).1 _ _ rfl
   ·exact(h2 _ k).2 _ _ _ rfl
  exact⟨h4,vb,vp,h.ext.frm f (fun m hm=>(hS m hm).1),h.b.frm f h.ext.wf (fun hm=>(hS q hm).2.2.1 rfl) (hn _ _ h.b.grow),h.bp.frm f h.ext.wf (fun hm=>(hS p hm).2.1 rfl) (hn _ _ h.bp.grow),h.pq,h.pb,h.qp,h.d,h.pl,h.pc⟩
 loc:=fun x s c hc ⟨h4,vb,vp,h⟩=>⟨h4,vb,vp,h.loc hc⟩
 len:=by
  intro x c b x' h
  obtain⟨o,pt,last⟩:=x
  unfold tensStep at h
  simp only[tensOut]
  split at h
  ·split at h
   ·cases hc:closeF pt with
    | none=>simp[hc]at h
    | some d=>
      have:=closeF_len hc
      simp[hc]at h
      rw[←h.2]
      simp only[List.length_append]
      omega
   ·cases h
  ·split at h
   ·simp at h;rw[←h.2];simp
   ·split at h
    ·split at h
     ·simp at h;rw[←h.2];simp
     ·cases h
    ·split at h
     ·cases h
     ·unfold charS at h
      split at h
      ·split at h
       ·simp at h;rw[←h.2];simp only[List.length_append,oct4_len];omega
       ·cases h
      ·simp at h;rw[←h.2];simp
 take:=by
  rintro⟨o,pt,last⟩ s c ⟨h4,vb,vp,a⟩ hlen
  simp only at h4
  simp only[tensOut]at hlen
  have r0:rdCell s.h p 0=some vp:=by simp[rdCell,a.bp.get]
  have r1:rdCell s.h p 1=some (.bool last):=by simp[rdCell,a.bp.get]
  have ltd:∀m o,hget s.h m=some o→m<s.nx:=fun m o ho=>a.ext.wf.lt _ _ ho
  have c62:((c.toNat:Int)=62)↔c=62:=by rw[←UInt8.toNat_inj];simp;omega
  have c126:((c.toNat:Int)=126)↔c=126:=by rw[←UInt8.toNat_inj];simp;omega
  have c122:((c.toNat:Int)=122)↔c=122:=by rw[←UInt8.toNat_inj];simp;omega
  have hn0:=a.ext.nx
  obtain⟨O,hO⟩:∃O,O=tensStep (o,pt,last) c:=⟨_,rfl⟩
  rw[←hO]
  unfold tensStep at hO
  refine call_res H.e H.f rfl ?_
  cases last with
  | true=>
    simp only[if_true]at hO
    by_cases hc:c=62
    ·rw[if_pos hc]at hO
     have hcl:=close_res H.ascii_tens_close H1 a.ext a.b a.bp a.pq a.pb a.qp a.d h4 a.pc hlen
     simp[B.ascii_tens_take,go_sem,RO.run,r1,c62,hc]
     refine hcl.mono ?_
     rintro v s2 ⟨y,k,hcase⟩
     have kk:∀m o,¬m=p→¬m=q→hget s.h m=some o→Safe o→hget (dropLoc s.nx s2.h) m=some o:=fun m o hm hq ho hs=>by
      rw[hget_dropLoc_lt (ltd m o ho)];exact k m o hm hq ho hs
     cases hcf:closeF pt with
     | none=>
       rw[hcf]at hcase hO
       simp at hO
       subst hO
       subst hcase
       simp[go_sem]
       exact⟨y.dropGe hn0,kk⟩
     | some d=>
       rw[hcf]at hcase hO
       simp at hO
       subst hO
       obtain⟨rfl,hB⟩:=hcase
       simp[go_sem]
       exact⟨y.dropGe hn0,kk,hB.dropLoc y.wf⟩
    ·rw[if_neg hc]at hO
     subst hO
     simp[B.ascii_tens_take,go_sem,RO.run,r1,c62,hc]
     exact⟨a.ext.dropGe hn0,fun m o hm hq ho hs=>by rw[hget_dropLoc_lt (ltd m o ho)];exact ho⟩
  | false=>
    simp only[Bool.false_eq_true,if_false]at hO
    by_cases hc:c=126
    ·rw[if_pos hc]at hO
     subst hO
     have hw:wrCells s.h p 1 [.bool true]=some (hset s.h p (.cells 307 false [vp,.bool true])):=wr_cells a.bp.get rfl (by simp)
     have f:=Frm.set a.ext.wf a.bp.get (o:= .cells 307 false [vp,.bool true])
     have y:=a.ext.setNew a.bp.get (o:= .cells 307 false [vp,.bool true]) a.bp.ge
     simp[B.ascii_tens_take,go_sem,RO.run,WO.run,r1,c126,hc,hw]
     have ti:TI st0 p q (o,pt,true) ⟨hset s.h p (.cells 307 false [vp,.bool true]),s.nx⟩ vb vp:=
      ⟨y,a.b.frm f a.ext.wf (by simpa using Ne.symm a.pq) (fun n hn=>by simp;rintro rfl;exact a.pb hn),⟨a.bp.ge,hget_hset_self a.bp.get,a.bp.grow.frm f a.ext.wf (fun n hn=>by simp;rintro rfl;exact a.bp.ap hn),a.bp.ap⟩,a.pq,a.pb,a.qp,a.d,a.pl,a.pc⟩
     exact⟨y.dropGe hn0,fun m o hm hq ho hs=>by rw[hget_dropLoc_lt (ltd m o ho),hget_hset_ne a.bp.get (by omega)];exact ho,h4,vb,vp,ti.loc hn0⟩
    rw[if_neg hc]at hO
    by_cases hz:c=122
    ·rw[if_pos hz]at hO
     by_cases hp0:pt.length=0
     ·rw[if_pos hp0]at hO
      have hpt:pt=[]:=List.length_eq_zero_iff.1 hp0
      subst hpt
      subst hO
      have vp0:vp= .nilslice∨∃n,vp= .slice n 0 0 .full:=by
       rcases a.bp.grow.form with ⟨e,_⟩ | ⟨n,e,_⟩
       ·exact .inl e
       ·exact .inr ⟨n,e⟩
      have xa:=Ext.new a.ext.wf (.cells 5 false (u8s [0,0,0,0]))
      have hem:=TI.emit H1 (a.up xa) (m:=[0,0,0,0]) rfl hlen (n:=s.nx) (ty:=5) (cp:= .known 4) (by simp[hget_cons])
      simp only[u8s,List.map_cons,List.map_nil]at hem
      have fin:∀s2,((∃vb',TI st0 p q (o++[0,0,0,0],[],false) s2 vb' vp)∧∀k o,k≠q→k∉vb.nms→hget ((s.nx,.cells 5 false [.int .u8 ((0:UInt8).toNat:Int),.int .u8 ((0:UInt8).toNat:Int),.int .u8 ((0:UInt8).toNat:Int),.int .u8 ((0:UInt8).toNat:Int)])::s.h) k=some o→hget s2.h k=some o)→
        Ext st0 ⟨dropLoc s.nx s2.h,s2.nx⟩∧(∀m o,¬m=p→¬m=q→hget s.h m=some o→Safe o→hget (dropLoc s.nx s2.h) m=some o)∧tensI st0 p q (o++[0,0,0,0],[],false) ⟨dropLoc s.nx s2.h,s2.nx⟩:=by
       rintro s2 ⟨⟨vb',t⟩,k⟩
       refine⟨t.ext.dropGe hn0,fun m o hm hq ho hs=> ?_,by simp,vb',vp,t.loc hn0⟩
       rw[hget_dropLoc_lt (ltd m o ho)]
       exact k m o hq (a.safe ho hs).1 ((Ext.new a.ext.wf _).get a.ext.wf ho)
      rcases vp0 with e | ⟨n,e⟩
      ·rw[e]at r0
       simp[B.ascii_tens_take,go_sem,RO.run,NO.run,r0,r1,c126,c122,hc,hz,reps]
       refine hem.mono ?_
       rintro _ s2 h
       simp[go_sem]
       exact fin s2 h
      ·rw[e]at r0
       simp[B.ascii_tens_take,go_sem,RO.run,NO.run,r0,r1,c126,c122,hc,hz,reps]
       refine hem.mono ?_
       rintro _ s2 h
       simp[go_sem]
       exact fin s2 h
     ·rw[if_neg hp0]at hO
      subst hO
      rcases a.bp.grow.form with ⟨e,e2⟩ | ⟨n,e,_⟩
      ·simp only at e2;rw[e2]at hp0;simp at hp0
      ·rw[e]at r0
       simp only at r0
       simp[B.ascii_tens_take,go_sem,RO.run,r0,r1,c126,c122,hc,hz,show (0:Int)<pt.length by omega,show 0<pt.length by omega]
       exact⟨a.ext.dropGe hn0,fun m o hm hq ho hs=>by rw[hget_dropLoc_lt (ltd m o ho)];exact ho⟩
    rw[if_neg hz]at hO
    by_cases hbd:c.toNat<33∨117<c.toNat
    ·rw[if_pos hbd]at hO
     subst hO
     by_cases h33:c.toNat<33
     ·simp[B.ascii_tens_take,go_sem,RO.run,r1,c126,c122,hc,hz,h33,show (c.toNat:Int)<33 by omega]
      exact⟨a.ext.dropGe hn0,fun m o hm hq ho hs=>by rw[hget_dropLoc_lt (ltd m o ho)];exact ho⟩
     ·simp[B.ascii_tens_take,go_sem,RO.run,r1,c126,c122,hc,hz,h33,show¬(c.toNat:Int)<33 by omega,show (117:Int)<c.toNat by omega,show 117<c.toNat by omega]
      exact⟨a.ext.dropGe hn0,fun m o hm hq ho hs=>by rw[hget_dropLoc_lt (ltd m o ho)];exact ho⟩
    rw[if_neg hbd]at hO
    have h33:¬c.toNat<33:=fun h=>hbd (.inl h)
    have h117:¬117<c.toNat:=fun h=>hbd (.inr h)
    have hpush:=a.push h4 (c:=c) (by omega)
    unfold charS at hO
    have hl5:(pt++[c]).length≤5:=by simp;omega
    obtain⟨P,hP⟩:∃P,P=pt++[c]:=⟨_,rfl⟩
    rw[←hP]at hO hpush hl5
    have hP0:P.length≠0:=by rw[hP];simp
    simp[B.ascii_tens_take,go_sem,RO.run,NO.run,r0,r1,c126,c122,hc,hz,h33,h117,show¬(c.toNat:Int)<33 by omega,show¬(117:Int)<c.toNat by omega,reps]
    refine hpush.mono ?_
    rintro v2 s2 ⟨ha,h',hw,t,k⟩
    have q0:rdCell h' p 0=some v2:=by simp[rdCell,t.bp.get]
    rcases t.bp.grow.form with ⟨e,e2⟩ | ⟨n,e,hrd,_⟩
    ·simp only at e2;rw[e2]at hP0;simp at hP0
    replace e:v2= .slice n 0 P.length .full:=e
    replace hrd:rdCells h' n 0 P.length=some (u8s P):=hrd
    rw[e]at q0
    have fin:∀(s3:St) (x':TX) (vb' vp':AV),TI st0 p q x' s3 vb' vp'→x'.2.1.length≤4→(∀m o,m≠p→m≠q→hget s.h m=some o→Safe o→hget s3.h m=some o)→
      Ext st0 ⟨dropLoc s.nx s3.h,s3.nx⟩∧(∀m o,¬m=p→¬m=q→hget s.h m=some o→Safe o→hget (dropLoc s.nx s3.h) m=some o)∧tensI st0 p q x' ⟨dropLoc s.nx s3.h,s3.nx⟩:=by
     intro s3 x' vb' vp' t3 hl k3
     exact⟨t3.ext.dropGe hn0,fun m o hm hq ho hs=>by rw[hget_dropLoc_lt (ltd m o ho)];exact k3 m o hm hq ho hs,hl,vb',vp',t3.loc hn0⟩
    by_cases h5:P.length=5
    ·rw[if_pos h5]at hO
     have h5':(P.length:Int)=5:=by omega
     rw[e]at hw ha
     rw[h5]at q0 hrd hw ha
     have hfold:=fun(st':St) hw' hr'=>fold_tells (st:=st') H.ascii_fold hw' (l:=P) (by omega) t.pc (n:=n) (cp:= .full) hr'
     rw[h5]at hfold
     subst e
     rw[h5]
     simp[go_sem,WO.run,RO.run,ha,hw,q0]
     refine(hfold _ t.ext.wf hrd).use fun s3 x3=> ?_
     have t3:=t.up x3
     have x4:=Ext.new t3.ext.wf (.cells 318 false (u8s (oct4 (v85 P 0))))
     have t4:=t3.up x4
     have k3:∀m o,m≠p→m≠q→hget s.h m=some o→Safe o→hget s3.h m=some o:=fun m o hm hq ho hs=>x3.get t.ext.wf (k m o hm ho hs)
     have k4:∀m o,m≠p→m≠q→hget s.h m=some o→Safe o→hget ((s3.nx,AObj.cells 318 false (u8s (oct4 (v85 P 0))))::s3.h) m=some o:=fun m o hm hq ho hs=>x4.get t3.ext.wf (k3 m o hm hq ho hs)
     by_cases hok:v85 P 0<4294967296
     ·rw[if_pos hok]at hO
      have hem:=TI.emit H1 t4 (m:=oct4 (v85 P 0)) rfl hlen (n:=s3.nx) (ty:=318) (cp:= .known 4) (by simp[hget_cons])
      simp only[oct4,u8s,List.map_cons,List.map_nil]at hem x4 k4
      have hsa:asubL 1 s3.nx 0 4 (.known 4) none none none=some (.slice s3.nx 0 4 (.known 4)):=by simp[asubL,abounds,topOf,subCap,bnd,abound]
      have keep5:∀(vb':AV) (s4:St),(∀k1 o1,k1≠q→k1∉vb.nms→hget ((s3.nx,AObj.cells 318 false [.int .u8 ((UInt8.ofNat (v85 P 0 / 16777216)).toNat:Int),.int .u8 ((UInt8.ofNat (v85 P 0 / 65536)).toNat:Int),.int .u8 ((UInt8.ofNat (v85 P 0 / 256)).toNat:Int),.int .u8 ((UInt8.ofNat (v85 P 0)).toNat:Int)])::s3.h) k1=some o1→hget s4.h k1=some o1)→
        ∀m o,m≠p→m≠q→hget s.h m=some o→Safe o→hget s4.h m=some o:=fun vb' s4 kk m o hm hq ho hs=>
       kk m o hq (a.safe ho hs).1 (k4 m o hm hq ho hs)
      have last:∀(s4:St) (vb':AV),TI st0 p q (o++oct4 (v85 P 0),P,false) s4 vb' (.slice n 0 5 .full)→(∀m o,m≠p→m≠q→hget s.h m=some o→Safe o→hget s4.h m=some o)→∃h5,wrCells s4.h p 0 [.nilslice]=some h5∧
        Ext st0 ⟨dropLoc s.nx h5,s4.nx⟩∧(∀m o,¬m=p→¬m=q→hget s.h m=some o→Safe o→hget (dropLoc s.nx h5) m=some o)∧tensI st0 p q (o++oct4 (v85 P 0),[],false) ⟨dropLoc s.nx h5,s4.nx⟩:=by
       intro s4 vb' t5 k5
       have fs:=Frm.set t5.ext.wf t5.bp.get (o:= .cells 307 false [.nilslice,.bool false])
       have y5:=t5.ext.setNew t5.bp.get (o:= .cells 307 false [.nilslice,.bool false]) t5.bp.ge
       refine⟨_,wr_p t5.bp.get .nilslice rfl,?_⟩
       refine fin ⟨_,s4.nx⟩ (o++oct4 (v85 P 0),[],false) vb' .nilslice ⟨y5,t5.b.frm fs t5.ext.wf (by simpa using Ne.symm t5.pq) (fun n hn=>by simp;rintro rfl;exact t5.pb hn),⟨t5.bp.ge,hget_hset_self t5.bp.get,Grow.nil _ _,by simp[AV.nms]⟩,t5.pq,t5.pb,by simp[AV.nms],by simp[AV.nms],by simp,by simp⟩ (by simp) ?_
       intro m o hm hq ho hs
       show hget (hset s4.h p _) m=_
       rw[hget_hset_ne t5.bp.get (by omega)]
       exact k5 m o hm hq ho hs
      subst hO
      simp only[oct4]at last⊢
      generalize UInt8.ofNat (v85 P 0 / 16777216)=A at*
      generalize UInt8.ofNat (v85 P 0 / 65536)=B at*
      generalize UInt8.ofNat (v85 P 0 / 256)=C at*
      generalize UInt8.ofNat (v85 P 0)=D at*
      simp[go_sem,NO.run,WO.run,RO.run,u8s,wrCells,hget_cons,hset_cons,splice,hok,hsa]
      refine hem.mono ?_
      rintro _ s4 ⟨⟨vb',t5⟩,kk⟩
      rw[h5]at t5
      obtain⟨h6,hw6,done⟩:=last s4 vb' t5 (keep5 vb' s4 kk)
      simp[go_sem,WO.run,hw6]
      exact done
     ·rw[if_neg hok]at hO
      subst hO
      have hxx:=t4.ext
      simp only[oct4,u8s,List.map_cons,List.map_nil]at hxx k4
      simp[go_sem,NO.run,WO.run,oct4,u8s,wrCells,hget_cons,hset_cons,splice,hok]
      exact⟨hxx.dropGe hn0,fun m o hm hq ho hs=>by rw[hget_dropLoc_lt (ltd m o ho)];exact k4 m o hm hq ho hs⟩
    ·rw[if_neg h5]at hO
     subst hO
     have h5':¬(P.length:Int)=5:=by omega
     subst e
     simp[go_sem,WO.run,RO.run,ha,hw,q0,h5,h5']
     exact fin ⟨h',s2.nx⟩ _ vb _ t (by simp only;omega) (fun m o hm hq ho hs=>k m o hm ho hs)
end Go.Ev

/- Unbase85 told; parts of the reference's. -/
namespace Go.Ev
open Go
set_option linter.unusedSimpArgs false
set_option linter.unusedSectionVars false
set_option linter.unusedVariables false
variable {T : Tab} {st : St}
def b85T (s:List UInt8):List UInt8×Nat×Int:=readT tensStep tensOut ([],[],false) s
theorem unbase85_tells (H:B.H_ascii_Unbase85 T) (hwf:st.Wf) {s:List UInt8} (hs:s.length<1000000000000):Tells T st (.fn 212 [] []) [.str s] (toU (b85T s)):=by
 refine tells_of H.e H.f rfl ?_
 have hx:=Ext.new hwf (.cells 307 false [.nilslice,.bool false])
 have hg:hget ((st.nx,AObj.cells 307 false [.nilslice,.bool false])::st.h) st.nx=some (.cells 307 false [.nilslice,.bool false]):=by simp[hget_cons]
 have hr:=read_tens H.ascii_read_ascii_tens (st0:=st) hx (p:=st.nx) (I:=tensI st st.nx (st.nx+6)) (tensDec H.ascii_tens_take H.ascii_read_ascii_tens.ascii_read_ascii_tens_1) (x0:=([],[],false)) (Nat.lt_succ_self _) (Nat.le_refl _)
  (fun s1 x1 g1=>⟨by simp,.nilslice,.nilslice,hx.trans x1,⟨by omega,g1,Grow.nil _ _,by simp[AV.nms]⟩,⟨Nat.le_refl _,x1.get hx.wf hg,Grow.nil _ _,by simp[AV.nms]⟩,by omega,by simp[AV.nms],by simp[AV.nms],by simp[AV.nms],by simp,by simp⟩) rfl hs
 simp[B.ascii_Unbase85,go_sem,NO.run]
 refine hr.mono ?_
 rintro _ s1 ⟨rfl,x1⟩
 simp[go_sem,toU,b85T,x1]
def endsS:List UInt8→Nat→Option Nat
 | [],_=>none
 | c::r,i=>if blankC c=true then endsS r (i+1)else if c=62 then some (i+1)else none
theorem runD_last (o pt:List UInt8):∀(s:List UInt8) (i:Nat),runD tensStep (o,pt,true) s i=match endsS s i with
  | none=>none
  | some j=>(closeF pt).map fun d=>((o++d,[],true),j)
 | [],i=>rfl
 | c::r,i=>by
   unfold runD endsS
   by_cases hb:blankC c=true
   ·rw[if_pos hb,if_pos hb];exact runD_last o pt r (i+1)
   ·rw[if_neg hb,if_neg hb]
    unfold tensStep
    simp only[if_true]
    by_cases hc:c=62
    ·rw[if_pos hc,if_pos hc]
     cases closeF pt <;> rfl
    ·rw[if_neg hc,if_neg hc]
def endsV:Option Nat→Int
 | none=> -1
 | some j=>(j:Int)
theorem ends_loop (H:B.H_chaseref02_ends T) {s:List UInt8} (hs:s.length<1000000000000):∀(m i:Nat) (e:Env) (st1:St),i+m=s.length→Ext st st1→eget e 0= .str s→eget e 1= .int .i64 i→
  Res (run T (.loop B.chaseref02_ends_l0) e st1) fun x e' s'=>Ext st s'∧x= .exit 0∧eget e' 0= .str s∧∃j,eget e' 1= .int .i64 ((j:Nat):Int)∧j≤s.length∧endsS (s.drop i) i=(match s[j]? with | some c=>if c=62 then some (j+1)else none | none=>none):=by
 intro m
 induction m with
 | zero=>
   intro i e st1 hi hx g0 g1
   have hil:i=s.length:=by omega
   subst hil
   rw[run_loop]
   simp[B.chaseref02_ends_l0,go_sem,g0,g1,hx,endsS]
   exact⟨s.length,rfl,by omega,by simp⟩
 | succ m ih=>
   intro i e st1 hi hx g0 g1
   have hil:i<s.length:=by omega
   have hil':(i:Int)<s.length:=by omega
   obtain⟨c,hc,hd⟩:=idx_some hil
   have ek:IntKind.i64.wrap ((i:Int)+1)=((i+1:Nat):Int):=wrap64' (by omega) (by omega)
   rw[hd,endsS,run_loop]
   simp[B.chaseref02_ends_l0,go_sem,g0,g1,hil',hc]
   refine(refBlank_tells H.chaseref02_Blank hx.wf c).use fun s1 hs1=> ?_
   have hx1:=hx.trans hs1
   cases hr:blankC c with
   | false=>
     simp[go_sem,g0,g1,hx1]
     exact⟨i,rfl,by omega,by rw[hc]⟩
   | true=>
     simp[go_sem,g0,g1]
     exact ih (i+1) _ s1 (by omega) hx1 (by simp[go_sem,g0]) (by simp[go_sem,g1,ek])
theorem ends_tells (H:B.H_chaseref02_ends T) (hwf:st.Wf) {s:List UInt8} {i:Nat} (hi:i≤s.length) (hs:s.length<1000000000000):Tells T st (.fn 202 [] []) [.str s,.int .i64 (i:Int)] (.int .i64 (endsV (endsS (s.drop i) i))):=by
 refine tells_of H.e H.f rfl ?_
 simp[B.chaseref02_ends,go_sem]
 refine(ends_loop H hs (s.length - i) i _ st (by omega) (.refl hwf) (by simp[go_sem]) (by simp[go_sem])).mono ?_
 rintro x e s1 ⟨x1,rfl,g0,j,g1,hj,he⟩
 rw[he]
 by_cases hjl:j<s.length
 ·obtain⟨c,hc,_⟩:=idx_some hjl
  have ek:IntKind.i64.wrap ((j:Int)+1)=((j+1:Nat):Int):=wrap64' (by omega) (by omega)
  have c62:((c.toNat:Int)=62)↔c=62:=by rw[←UInt8.toNat_inj];simp;omega
  have hj':(j:Int)<s.length:=by omega
  rw[hc]
  simp only
  by_cases h:c=62
  ·obtain⟨w,hw⟩:∃w,w=j+1:=⟨_,rfl⟩
   rw[if_pos h,←hw]
   rw[←hw]at ek
   clear hjl hj
   simp[go_sem,g0,g1,hj',hc,c62,h,ek,endsV,x1]
  ·rw[if_neg h]
   clear hjl hj
   simp[go_sem,g0,g1,hj',hc,c62,h,endsV,x1]
 ·have hjn:s[j]? =none:=List.getElem?_eq_none (by omega)
  rw[hjn]
  simp[go_sem,g0,g1,show¬(j:Int)<s.length by omega,hjl,endsV,x1]
def fill5 (pt:List UInt8):List UInt8:=pt++List.replicate (5 - pt.length) 117
theorem fill5_len {pt:List UInt8} (h:pt.length≤5):(fill5 pt).length=5:=by simp[fill5];omega
theorem fill5_get {pt:List UInt8} {i:Nat} (h:i<5):(fill5 pt)[i]? =some (pt.getD i 117):=by
 unfold fill5
 by_cases hi:i<pt.length
 ·rw[List.getElem?_append_left hi,List.getElem?_eq_getElem hi];simp[hi]
 ·rw[List.getElem?_append_right (by omega),List.getElem?_replicate,if_pos (by omega)];simp[hi]
theorem unit_loop {pt:List UInt8} (hl:pt.length≤5) (hc:∀c∈pt,33≤c.toNat) {n:Nat} {cp:Cap} (hrd:rdCells st.h n 0 pt.length=some (u8s pt)):∀(j i:Nat) (e:Env),i+j=5→eget e 0= .slice n 0 pt.length cp→eget e 3= .int .i64 ((v85 ((fill5 pt).take i) 0:Nat):Int)→eget e 4= .int .i64 (i:Int)→
  Res (run T (.loop B.chaseref02_unit_l0) e st) fun x e' s'=>x= .exit 0∧s'=st∧eget e' 3= .int .i64 ((v85 (fill5 pt) 0:Nat):Int):=by
 intro j
 induction j with
 | zero=>
   intro i e hi g0 g3 g4
   have hil:i=5:=by omega
   subst hil
   rw[List.take_of_length_le (by rw[fill5_len hl];omega)]at g3
   rw[run_loop]
   simp[B.chaseref02_unit_l0,go_sem,g0,g3,g4]
 | succ j ih=>
   intro i e hi g0 g3 g4
   have h5:i<5:=by omega
   have h5':(i:Int)<5:=by omega
   have hcc:=fill5_get (pt:=pt) h5
   have hsn:=v85_snoc ((fill5 pt).take i) 0 (pt.getD i 117)
   rw[←take_snoc hcc]at hsn
   have hb:=v85_bnd (s:=(fill5 pt).take i) (by simp;omega)
   have ih2:=fun e'=>ih (i+1) e' (by omega)
   rw[hsn]at ih2
   have ek:IntKind.i64.wrap ((i:Int)+1)=((i+1:Nat):Int):=wrap64' (by omega) (by omega)
   rw[run_loop]
   by_cases hil:i<pt.length
   ·obtain⟨c,hci,_⟩:=idx_some hil
    have c33:=hc c (List.mem_of_getElem? hci)
    have cl:=c.toNat_lt
    have hr:rdCell st.h n i=some (.int .u8 (c.toNat:Int)):=by
     have:=rdCells_get hrd (i:=i) (by omega)
     rw[Nat.zero_add]at this
     rw[this];simp[u8s,hci]
    have hgd:pt.getD i 117=c:=by simp[List.getD_eq_getElem?_getD,hci]
    rw[hgd]at ih2
    generalize v85 ((fill5 pt).take i) 0=N at*
    obtain⟨w,hw⟩:∃w:Nat,w=d85 N c:=⟨_,rfl⟩
    rw[←hw]at ih2
    unfold d85 at hw
    have w1:IntKind.i64.wrap ((N:Int)*85)=(N:Int)*85:=wrap64' (by omega) (by omega)
    have w2:IntKind.i64.wrap (c.toNat:Int)=(c.toNat:Int):=wrap64' (by omega) (by omega)
    have w3:IntKind.i64.wrap ((N:Int)*85+(c.toNat:Int))=(N:Int)*85+(c.toNat:Int):=wrap64' (by omega) (by omega)
    have w4:IntKind.i64.wrap ((N:Int)*85+(c.toNat:Int) - 33)=(w:Int):=by rw[wrap64' (by omega) (by omega)];omega
    have h1:(i:Int)<pt.length:=by omega
    clear hsn hb hcc hw ih
    simp[B.chaseref02_unit_l0,go_sem,RO.run,g0,g3,g4,h5,h5',h1,hil,hr,w1,w2,w3,w4]
    exact ih2 _ (by simp[go_sem,g0]) (by simp[go_sem,w4]) (by simp[go_sem,ek])
   ·have hgd:pt.getD i 117=117:=by simp[List.getD_eq_getElem?_getD,List.getElem?_eq_none (show pt.length≤i by omega)]
    rw[hgd]at ih2
    generalize v85 ((fill5 pt).take i) 0=N at*
    obtain⟨w,hw⟩:∃w:Nat,w=d85 N 117:=⟨_,rfl⟩
    rw[←hw]at ih2
    have hw2:w=N*85+84:=by rw[hw];rfl
    have w1:IntKind.i64.wrap ((N:Int)*85)=(N:Int)*85:=wrap64' (by omega) (by omega)
    have w3:IntKind.i64.wrap ((N:Int)*85+117)=(N:Int)*85+117:=wrap64' (by omega) (by omega)
    have w4:IntKind.i64.wrap ((N:Int)*85+117 - 33)=(w:Int):=by rw[wrap64' (by omega) (by omega)];omega
    have h1:¬(i:Int)<pt.length:=by omega
    clear hsn hb hcc hw hw2 ih
    simp[B.chaseref02_unit_l0,go_sem,RO.run,g0,g3,g4,h5,h5',h1,hil,w1,w3,w4]
    exact ih2 _ (by simp[go_sem,g0]) (by simp[go_sem,w4]) (by simp[go_sem,ek])
theorem unit_tells (H:B.H_chaseref02_unit T) (hwf:st.Wf) {pt:List UInt8} (hl:pt.length≤5) (hc:∀c∈pt,33≤c.toNat) {n:Nat} {cp:Cap} (hrd:rdCells st.h n 0 pt.length=some (u8s pt)):Tells T st (.fn 203 [] []) [.slice n 0 pt.length cp] (.int .i64 ((v85 (fill5 pt) 0:Nat):Int)):=by
 refine tells_of H.e H.f rfl ?_
 simp[B.chaseref02_unit,go_sem]
 refine(unit_loop hl hc hrd 5 0 _ (by omega) (by simp[go_sem];rfl) (by simp[go_sem,v85_nil]) (by simp[go_sem])).mono ?_
 rintro x e s1 ⟨rfl,rfl,g3⟩
 simp[go_sem,g3,Ext.refl hwf]
theorem four_res (H:B.H_chaseref02_four T) (hwf:st.Wf) {n:Nat} (hn:n<17748212500):CRes (call T (.fn 204 [] []) [.int .i64 (n:Int)] st) fun v s'=>v= .slice st.nx 0 4 (.known 4)∧s'=⟨(st.nx,.cells 5 false (u8s (oct4 n)))::st.h,st.nx+1⟩:=by
 refine call_res H.e H.f rfl ?_
 have a1:(n:Int).tdiv 16777216=((n / 16777216:Nat):Int):=by rw[Int.tdiv_eq_ediv_of_nonneg (by omega)];omega
 have a2:(n:Int).tdiv 65536=((n / 65536:Nat):Int):=by rw[Int.tdiv_eq_ediv_of_nonneg (by omega)];omega
 have a3:(n:Int).tdiv 256=((n / 256:Nat):Int):=by rw[Int.tdiv_eq_ediv_of_nonneg (by omega)];omega
 have b2:((n / 65536:Nat):Int).tmod 256=((n / 65536 % 256:Nat):Int):=by rw[Int.tmod_eq_emod_of_nonneg (by omega)];omega
 have b3:((n / 256:Nat):Int).tmod 256=((n / 256 % 256:Nat):Int):=by rw[Int.tmod_eq_emod_of_nonneg (by omega)];omega
 have b4:(n:Int).tmod 256=((n % 256:Nat):Int):=by rw[Int.tmod_eq_emod_of_nonneg (by omega)];omega
 have w1:IntKind.i64.wrap ((n / 16777216:Nat):Int)=((n / 16777216:Nat):Int):=wrap64' (by omega) (by omega)
 have w2:IntKind.i64.wrap ((n / 65536:Nat):Int)=((n / 65536:Nat):Int):=wrap64' (by omega) (by omega)
 have w3:IntKind.i64.wrap ((n / 256:Nat):Int)=((n / 256:Nat):Int):=wrap64' (by omega) (by omega)
 have q1:=u8_of (n / 16777216)
 have hm:∀m:Nat,UInt8.ofNat (m % 256)=UInt8.ofNat m:=fun m=>by rw[←UInt8.toNat_inj,UInt8.toNat_ofNat',UInt8.toNat_ofNat'];omega
 have q2:=u8_of (n / 65536 % 256)
 have q3:=u8_of (n / 256 % 256)
 have q4:=u8_of (n % 256)
 rw[hm]at q2 q3 q4
 have hd:∀o:AObj,o.lc=false→dropLoc st.nx ((st.nx,o)::st.h)=(st.nx,o)::st.h:=fun o ho=>by
  have:locNames st.nx ((st.nx,o)::st.h)=[]:=by
   cases o with
   | cells ty l cs=>
     cases l with
     | true=>cases ho
     | false=>simp only[locNames];exact locNames_nil fun n o ho=>hwf.lt n o ho
   | _=>simp only[locNames];exact locNames_nil fun n o ho=>hwf.lt n o ho
  rw[dropLoc_eq,this,hdrop_nil]
 simp only[oct4,u8s,List.map_cons,List.map_nil]
 generalize UInt8.ofNat (n / 16777216)=A1 at*
 generalize UInt8.ofNat (n / 65536)=A2 at*
 generalize UInt8.ofNat (n / 256)=A3 at*
 generalize UInt8.ofNat n=A4 at*
 generalize n / 65536 % 256=m2 at*
 generalize n / 256 % 256=m3 at*
 generalize n % 256=m4 at*
 generalize n / 16777216=d1 at*
 generalize n / 65536=d2 at*
 generalize n / 256=d3 at*
 simp[B.chaseref02_four,go_sem,NO.run,a1,a2,a3,b2,b3,b4,w1,w2,w3,q1,q2,q3,q4,AV.nb]
 exact hd _ rfl
theorem finish_tells (H:B.H_chaseref02_finish T) (hwf:st.Wf) {st0:St} {v:AV} {o:List UInt8} (g:Grow st0 st v o) {i:Nat}:Tells T st (.fn 205 [] []) [v,.int .i64 (i:Int)] (toU (if 65536<o.length then([],0,3)else(o,i,0))):=by
 refine tells_of H.e H.f rfl ?_
 have hu:=toBytes_u8s o
 rcases g.form with ⟨e1,e2⟩ | ⟨n,e1,hrd,_⟩
 ·subst e1;subst e2
  simp[B.chaseref02_finish,go_sem,RO.run,toU,Ext.refl hwf]
 ·subst e1
  by_cases h:65536<o.length
  ·simp[B.chaseref02_finish,go_sem,RO.run,toU,h,show (65536:Int)<o.length by omega,Ext.refl hwf]
  ·simp[B.chaseref02_finish,go_sem,RO.run,toU,h,show¬(65536:Int)<o.length by omega,hrd,hu,Ext.refl hwf]
end Go.Ev

/- The reference's Unbase85 told. -/
namespace Go.Ev
open Go
set_option linter.unusedSimpArgs false
set_option linter.unusedSectionVars false
set_option linter.unusedVariables false
variable {T : Tab} {st : St}
def finB:Option (TX×Nat)→List UInt8×Nat×Int
 | none=>([],0,5)
 | some (x,n)=>if 65536<x.1.length then([],0,3)else(x.1,n,0)
theorem Grow.rdl {st0 s:St} {v:AV} {l:List UInt8} (a:Grow st0 s v l) (h:l≠[]):∃n,v= .slice n 0 l.length .full∧rdCells s.h n 0 l.length=some (u8s l):=by
 rcases a.form with ⟨_,e⟩ | ⟨n,e,h2,_⟩
 ·exact absurd e h
 ·exact⟨n,e,h2⟩
theorem refB_loop (H:B.H_chaseref02_Unbase85 T) {s:List UInt8} (hs:s.length≤65536) {st0:St}:∀(m i:Nat) (o pt:List UInt8) (vo vp:AV) (e:Env) (st1:St),i+m=s.length→o.length≤4*i→pt.length≤4→(∀c∈pt,33≤c.toNat)→Ext st0 st1→Grow st0 st1 vo o→Grow st0 st1 vp pt→(∀n∈vo.nms,n∉vp.nms)→eget e 0= .str s→eget e 5=vo→eget e 6=vp→eget e 7= .int .i64 (i:Int)→
  Res (run T (.loop B.chaseref02_Unbase85_l0) e st1) fun x e' s'=>Ext st0 s'∧((x= .exit 0∧runD tensStep (o,pt,false) (s.drop i) i=none)∨(x= .ret∧eget e' 2= .str (finB (runD tensStep (o,pt,false) (s.drop i) i)).1∧eget e' 3= .int .i64 ((finB (runD tensStep (o,pt,false) (s.drop i) i)).2.1:Nat)∧eget e' 4= .int .i64 (finB (runD tensStep (o,pt,false) (s.drop i) i)).2.2)):=by
 intro m
 induction m with
 | zero=>
   intro i o pt vo vp e st1 hi ho hp hpc hx go gp hd g0 g5 g6 g7
   have hil:i=s.length:=by omega
   subst hil
   rw[run_loop]
   simp[B.chaseref02_Unbase85_l0,go_sem,g0,g5,g6,g7,hx,runD]
 | succ m ih=>
   intro i o pt vo vp e st1 hi ho hp hpc hx go gp hd g0 g5 g6 g7
   have hil:i<s.length:=by omega
   obtain⟨c,hc,hdr⟩:=idx_some hil
   obtain⟨R,hR⟩:∃R,R=runD tensStep (o,pt,false) (s.drop i) i:=⟨_,rfl⟩
   rw[←hR]
   rw[hdr,runD]at hR
   have h1:(i:Int)<s.length:=by omega
   have ek:IntKind.i64.wrap ((i:Int)+1)=((i+1:Nat):Int):=wrap64' (by omega) (by omega)
   have c126:((c.toNat:Int)=126)↔c=126:=by rw[←UInt8.toNat_inj];simp;omega
   have c122:((c.toNat:Int)=122)↔c=122:=by rw[←UInt8.toNat_inj];simp;omega
   have ih2:=fun o pt vo vp e' st'=>ih (i+1) o pt vo vp e' st' (by omega)
   clear ih
   rw[run_loop]
   simp[B.chaseref02_Unbase85_l0,go_sem,g0,g5,g6,g7,h1,hc]
   refine(refBlank_tells H.chaseref02_Blank hx.wf c).use fun s1 x1'=> ?_
   have x1:=hx.trans x1'
   have go1:=go.ext x1' hx.wf
   have gp1:=gp.ext x1' hx.wf
   cases hbl:blankC c with
   | true=>
     rw[if_pos hbl]at hR
     subst hR
     simp[go_sem,g0,g5,g6,g7]
     exact ih2 o pt vo vp _ s1 (by omega) hp hpc x1 go1 gp1 hd (by simp[go_sem,g0]) (by simp[go_sem,g5]) (by simp[go_sem,g6]) (by simp[go_sem,g7,ek])
   | false=>
     rw[if_neg (by simp[hbl])]at hR
     by_cases h126:c=126
     ·have hst:tensStep (o,pt,false) c=some (false,(o,pt,true)):=by simp[tensStep,h126]
      rw[hst]at hR
      simp only at hR
      rw[runD_last]at hR
      have hen:=fun(st':St) (hw:st'.Wf)=>ends_tells (st:=st') H.chaseref02_ends hw (s:=s) (i:=i+1) (by omega) (by omega)
      obtain⟨i1,hi1⟩:∃i1,i1=i+1:=⟨_,rfl⟩
      rw[←hi1]at hR hen ek
      have hjb:∀j,endsS (s.drop i1) i1=some j→j≤100000:=by
       have:∀(t:List UInt8) (a j:Nat),endsS t a=some j→j≤a+t.length:=by
        intro t
        induction t with
        | nil=>intro a j h;cases h
        | cons d r ihh=>
          intro a j h
          unfold endsS at h
          split at h
          ·have:=ihh _ _ h;simp;omega
          ·split at h
           ·injection h with h;subst h;simp only[List.length_cons];omega
           ·cases h
       intro j h
       have:=this _ _ _ h
       rw[List.length_drop]at this
       omega
      generalize endsS (s.drop i1) i1=E at*
      have n126:¬(126:Int)=0:=by decide
      simp[go_sem,g0,g5,g6,g7,c126,h126,ek]
      refine(hen _ x1.wf).use fun s2 x2'=> ?_
      have x2:=x1.trans x2'
      have go2:=go1.ext x2' x1.wf
      have gp2:=gp1.ext x2' x1.wf
      cases hE:E with
      | none=>
        rw[hE]at hR
        simp only at hR
        subst hR
        simp[go_sem,endsV,finB,x2]
      | some j=>
        rw[hE]at hR
        simp only at hR
        have hj:=hjb j hE
        have hjn:¬(j:Int)<0:=by omega
        by_cases hp0:pt.length=0
        ·have hpt:pt=[]:=List.length_eq_zero_iff.1 hp0
         subst hpt
         have hcf:closeF []=some []:=rfl
         rw[hcf]at hR
         simp at hR
         subst hR
         have hfin:=fun(st':St) (hw:st'.Wf) (g:Grow st0 st' vo o)=>finish_tells H.chaseref02_finish hw g (i:=j)
         have vp0:vp= .nilslice∨∃n,vp= .slice n 0 0 .full:=by
          rcases gp2.form with ⟨e,_⟩ | ⟨n,e,_⟩
          ·exact .inl e
          ·exact .inr ⟨n,e⟩
         clear gp gp1 gp2 hd g6
         have hA:finB (some ((o,[],true),j))=if 65536<o.length then([],0,3)else(o,j,0):=rfl
         rw[hA]
         generalize (if 65536<o.length then(([],0,3):List UInt8×Nat×Int)else(o,j,0))=Z at*
         rcases vp0 with e | ⟨n,e⟩
         ·subst e
          simp[go_sem,endsV,g5,hjn]
          refine(hfin _ x2.wf go2).use fun s3 x3=> ?_
          simp[go_sem,toU,x2.trans x3]
         ·subst e
          simp[go_sem,endsV,g5,hjn]
          refine(hfin _ x2.wf go2).use fun s3 x3=> ?_
          simp[go_sem,toU,x2.trans x3]
        ·obtain⟨n,e,hrd⟩:=gp2.rdl (by intro h;rw[h]at hp0;simp at hp0)
         by_cases hp1:pt.length=1
         ·have hcf:closeF pt=none:=by simp[closeF,hp1]
          rw[hcf]at hR
          simp at hR
          subst hR
          subst e
          simp[go_sem,endsV,g5,g6,hjn,hp1,finB,x2]
         ·have hcf:closeF pt=if v85 (fill5 pt) 0<4294967296 then some ((oct4 (v85 (fill5 pt) 0)).take (pt.length - 1))else none:=by
           unfold closeF
           rw[if_neg hp1,if_neg hp0]
           rfl
          have hbnd:=v85_bnd (s:=fill5 pt) (by rw[fill5_len (by omega)];omega)
          have hun:=fun(st':St) (hw:st'.Wf) hr=>unit_tells (st:=st') H.chaseref02_unit hw (pt:=pt) (by omega) hpc (n:=n) (cp:= .full) hr
          have hrdx:∀(s3:St),Ext s2 s3→rdCells s3.h n 0 pt.length=some (u8s pt):=by
           intro s3 x3
           rw[←hrd]
           obtain⟨ob,hob⟩:=rdCells_some hrd
           unfold rdCells
           rw[x3.get x2.wf hob,hob]
          subst e
          clear gp gp1 gp2 hd
          obtain⟨k,hk⟩:∃k,k=pt.length:=⟨_,rfl⟩
          rw[←hk]at hun g6 hp1 hp0 hp hcf hrdx⊢
          have k1:¬(k:Int)=1:=by omega
          have k2:(1:Int)<k:=by omega
          have k2':1<k:=by omega
          have hkw:IntKind.i64.wrap ((k:Int) - 1)=((k - 1:Nat):Int):=by rw[wrap64' (by omega) (by omega)];omega
          rw[hcf]at hR
          have hol:((oct4 (v85 (fill5 pt) 0)).take (k - 1)).length=k - 1:=by simp[oct4];omega
          have hrd4:∀(nn:Nat) (h:Heap),rdCells ((nn,AObj.cells 5 false (u8s (oct4 (v85 (fill5 pt) 0))))::h) nn 0 (k - 1)=some (u8s ((oct4 (v85 (fill5 pt) 0)).take (k - 1))):=by
           intro nn h
           rw[rd_part (h:=(nn,AObj.cells 5 false (u8s (oct4 (v85 (fill5 pt) 0))))::h) (n:=nn) (ty:=5) (k:=k - 1) (o:=0) (l:=false) (cs:=u8s (oct4 (v85 (fill5 pt) 0))) (by simp[hget_cons]) (by simp[u8s,oct4];omega)]
           simp[u8s,List.map_take]
          generalize v85 (fill5 pt) 0=U at*
          simp[go_sem,endsV,g5,g6,hjn,hp1,k1,k2,k2']
          refine(hun _ x2.wf (hrdx _ (.refl x2.wf))).use fun s3 x3'=> ?_
          have x3:=x2.trans x3'
          have go3:=go2.ext x3' x2.wf
          by_cases hU:U<4294967296
          ·have hU':¬(4294967296:Int)≤(U:Int):=by omega
           have hU2:¬4294967296≤U:=by omega
           rw[if_pos hU]at hR
           simp only[Option.map_some]at hR
           subst hR
           simp[go_sem,g5,g6,hU',hU2,k2,k2']
           refine(hun _ x3.wf (hrdx _ x3')).use fun s4 x4'=> ?_
           have x4:=x3.trans x4'
           have go4:=go3.ext x4' x3.wf
           simp[go_sem]
           refine(four_res H.chaseref02_four x4.wf hbnd).mono ?_
           rintro _ _ ⟨rfl,rfl⟩
           have x5':=Ext.new x4.wf (.cells 5 false (u8s (oct4 U)))
           have x5:=x4.trans x5'
           have go5:=go4.ext x5' x4.wf
           have hj0:(0:Int)≤((k - 1:Nat):Int):=by omega
           have hj4:((k - 1:Nat):Int)≤((4:Nat):Int):=by omega
           have hsa:asubL 1 s4.nx 0 4 (.known 4) none (some (.int .i64 ((k - 1:Nat):Int))) none=some (.slice s4.nx 0 (k - 1) (.known 4)):=by rw[asubL_hi_known (len:=4) hj0 hj4 (by decide)];simp
           have hrr:Rd ((s4.nx,AObj.cells 5 false (u8s (oct4 U)))::s4.h) (.slice s4.nx 0 (k - 1) (.known 4)) 1 ((oct4 U).take (k - 1)).length (u8s ((oct4 U).take (k - 1))):= .inr ⟨s4.nx,0,_,by rw[hol],by rw[hol,Nat.mul_one];exact hrd4 _ _⟩
           have happ:=go5.app x5.nx x5.wf hrr (by rw[hol];omega)
           generalize (oct4 U).take (k - 1)=D at*
           generalize k - 1=k9 at*
           simp[go_sem,g5,g6,hkw,hsa]
           refine happ.mono ?_
           rintro v6 s6 ⟨go6,f6⟩
           have x6:=x5.frm f6 go5.ge
           simp[go_sem]
           have hA:finB (some ((o++D,[],true),j))=if 65536<(o++D).length then([],0,3)else(o++D,j,0):=rfl
           rw[hA]
           have hfin:=finish_tells H.chaseref02_finish x6.wf go6 (i:=j)
           generalize (if 65536<(o++D).length then(([],0,3):List UInt8×Nat×Int)else(o++D,j,0))=Z at*
           refine hfin.use fun s7 x7=> ?_
           simp[go_sem,toU,x6.trans x7]
          ·have hU':(4294967296:Int)≤(U:Int):=by omega
           have hU2:4294967296≤U:=by omega
           rw[if_neg hU]at hR
           simp at hR
           subst hR
           simp[go_sem,hU',hU2,finB,x3]
     ·by_cases hz:c=122∧pt.length=0
      ·obtain⟨hz1,hz2⟩:=hz
       have hpt:pt=[]:=List.length_eq_zero_iff.1 hz2
       subst hpt
       have hst:tensStep (o,[],false) c=some (false,(o++[0,0,0,0],[],false)):=by simp[tensStep,hz1]
       rw[hst]at hR
       simp only at hR
       subst hR
       have xa:=Ext.new x1.wf (.cells 5 false (u8s [0,0,0,0]))
       have happ:=(go1.ext xa x1.wf).app2 (Nat.le_trans x1.nx xa.nx) xa.wf (m:=[0,0,0,0]) (x:= .slice s1.nx 0 4 (.known 4)) (.inr ⟨s1.nx,0,_,rfl,rd_all (ty:=5) (l:=false) (by simp[hget_cons]) rfl⟩) (by simp;omega)
       simp only[u8s,List.map_cons,List.map_nil]at happ xa
       have vp0:vp= .nilslice∨∃n,vp= .slice n 0 0 .full:=by
        rcases gp1.form with ⟨e,_⟩ | ⟨n,e,_⟩
        ·exact .inl e
        ·exact .inr ⟨n,e⟩
       have fin:∀v2 s2 e2,(Grow st0 s2 v2 (o++[0,0,0,0])∧Frm vo.nms ⟨(s1.nx,.cells 5 false [.int .u8 ((0:UInt8).toNat:Int),.int .u8 ((0:UInt8).toNat:Int),.int .u8 ((0:UInt8).toNat:Int),.int .u8 ((0:UInt8).toNat:Int)])::s1.h,s1.nx+1⟩ s2∧Mine vo.nms ⟨(s1.nx,.cells 5 false [.int .u8 ((0:UInt8).toNat:Int),.int .u8 ((0:UInt8).toNat:Int),.int .u8 ((0:UInt8).toNat:Int),.int .u8 ((0:UInt8).toNat:Int)])::s1.h,s1.nx+1⟩ v2)→
         eget e2 0= .str s→eget e2 5=v2→eget e2 6=vp→eget e2 7= .int .i64 ((i+1:Nat):Int)→Res (run T (.loop B.chaseref02_Unbase85_l0) e2 s2) fun x e' s'=>Ext st0 s'∧((x= .exit 0∧runD tensStep (o++[0,0,0,0],[],false) (s.drop (i+1)) (i+1)=none)∨(x= .ret∧eget e' 2= .str (finB (runD tensStep (o++[0,0,0,0],[],false) (s.drop (i+1)) (i+1))).1∧eget e' 3= .int .i64 ((finB (runD tensStep (o++[0,0,0,0],[],false) (s.drop (i+1)) (i+1))).2.1:Nat)∧eget e' 4= .int .i64 (finB (runD tensStep (o++[0,0,0,0],[],false) (s.drop (i+1)) (i+1))).2.2)):=by
        rintro v2 s2 e2 ⟨o2,f2,m2⟩ k0 k5 k6 k7
        have xb:=x1.trans xa
        refine ih2 _ _ v2 vp e2 s2 (by simp;omega) (by simp) (by simp) (xb.frm f2 go1.ge) o2 ((gp1.ext xa x1.wf).frm f2 xa.wf (fun n hn h=>hd n h hn)) (fun n hn hn2=> ?_) k0 k5 k6 k7
        rcases m2 n hn with h | h
        ·exact hd n h hn2
        ·have:=gp1.lt x1.wf n hn2;simp at h;omega
       rcases vp0 with e | ⟨n,e⟩
       ·subst e
        simp[go_sem,g0,g5,g6,g7,c126,c122,h126,hz1,NO.run,reps]
        refine happ.mono ?_
        intro v2 s2 h
        simp[go_sem,g0,g6,g7]
        exact fin v2 s2 _ h (by simp[go_sem,g0]) (by simp[go_sem]) (by simp[go_sem,g6]) (by simp[go_sem,g7,ek])
       ·subst e
        simp[go_sem,g0,g5,g6,g7,c126,c122,h126,hz1,NO.run,reps]
        refine happ.mono ?_
        intro v2 s2 h
        simp[go_sem,g0,g6,g7]
        exact fin v2 s2 _ h (by simp[go_sem,g0]) (by simp[go_sem]) (by simp[go_sem,g6]) (by simp[go_sem,g7,ek])
      ·by_cases hz1:c=122
       ·have hp0:pt.length≠0:=fun h=>hz ⟨hz1,h⟩
        have hst:tensStep (o,pt,false) c=none:=by simp only[tensStep];rw[if_neg (by simp),if_neg h126,if_pos hz1,if_neg hp0]
        rw[hst]at hR
        simp only at hR
        subst hR
        obtain⟨n,e,_⟩:=gp1.rdl (by intro h;rw[h]at hp0;simp at hp0)
        subst e
        have hp0':¬(pt.length:Int)=0:=by omega
        have hpne:¬pt=[]:=by intro h;rw[h]at hp0;simp at hp0
        simp[go_sem,g0,g5,g6,g7,c126,c122,h126,hz1,hp0,hp0',hpne,finB,x1]
       ·by_cases hbd:c.toNat<33∨117<c.toNat
        ·have hst:tensStep (o,pt,false) c=none:=by simp only[tensStep];rw[if_neg (by simp),if_neg h126,if_neg hz1,if_pos hbd]
         rw[hst]at hR
         simp only at hR
         subst hR
         by_cases h33:c.toNat<33
         ·simp[go_sem,g0,g5,g6,g7,c126,c122,h126,hz1,h33,show (c.toNat:Int)<33 by omega,finB,x1]
         ·simp[go_sem,g0,g5,g6,g7,c126,c122,h126,hz1,h33,show¬(c.toNat:Int)<33 by omega,show (117:Int)<c.toNat by omega,show 117<c.toNat by omega,finB,x1]
        ·have h33:¬c.toNat<33:=fun h=>hbd (.inl h)
         have h117:¬117<c.toNat:=fun h=>hbd (.inr h)
         have hst:tensStep (o,pt,false) c=charS o (pt++[c]):=by simp only[tensStep];rw[if_neg (by simp),if_neg h126,if_neg hz1,if_neg hbd]
         rw[hst]at hR
         have hpush:=gp1.push2 x1.nx x1.wf (c:=c) (by omega)
         have hPl:(pt++[c]).length=pt.length+1:=by simp
         have hPc:∀d∈pt++[c],33≤d.toNat:=by
          intro d hd
          rcases List.mem_append.1 hd with h | h
          ·exact hpc d h
          ·simp at h;subst h;omega
         simp only[charS]at hR
         generalize pt++[c]=P at*
         simp[go_sem,g0,g5,g6,g7,c126,c122,h126,hz1,h33,h117,show¬(c.toNat:Int)<33 by omega,show¬(117:Int)<c.toNat by omega,NO.run,reps]
         refine hpush.mono ?_
         rintro v2 s2 ⟨gP,f2,m2⟩
         have x2:=x1.frm f2 gp1.ge
         have go2:=go1.frm f2 x1.wf hd
         have hd2:∀n∈vo.nms,n∉v2.nms:=fun n hn hn2=>by
          rcases m2 n hn2 with h | h
          ·exact hd n hn h
          ·have:=go1.lt x1.wf n hn;omega
         obtain⟨n,e,hrd⟩:=gP.rdl (by intro h;rw[h]at hPl;simp at hPl)
         by_cases h5:P.length=5
         ·rw[if_pos h5]at hR
          have hf5:fill5 P=P:=by simp[fill5,h5]
          have hun:=fun(st':St) (hw:st'.Wf) hr=>unit_tells (st:=st') H.chaseref02_unit hw (pt:=P) (by omega) hPc (n:=n) (cp:= .full) hr
          rw[hf5]at hun
          have hbnd:=v85_bnd (s:=P) (by omega)
          have hrdx:∀(s3:St),Ext s2 s3→rdCells s3.h n 0 P.length=some (u8s P):=by
           intro s3 x3
           rw[←hrd]
           obtain⟨ob,hob⟩:=rdCells_some hrd
           unfold rdCells
           rw[x3.get x2.wf hob,hob]
          subst e
          have h5':¬(P.length:Int)<5:=by omega
          have h5n:¬P.length<5:=by omega
          have hr0:=hrdx _ (.refl x2.wf)
          generalize v85 P 0=U at*
          simp[go_sem,g0,g5,g6,g7,h5',h5n]
          refine(hun _ x2.wf hr0).use fun s3 x3'=> ?_
          have x3:=x2.trans x3'
          have go3:=go2.ext x3' x2.wf
          by_cases hU:U<4294967296
          ·have hU':¬(4294967296:Int)≤(U:Int):=by omega
           have hU2:¬4294967296≤U:=by omega
           rw[if_pos hU]at hR
           simp only at hR
           subst hR
           simp[go_sem,g0,g5,g7,hU',hU2]
           refine(hun _ x3.wf (hrdx _ x3')).use fun s4 x4'=> ?_
           have x4:=x3.trans x4'
           have go4:=go3.ext x4' x3.wf
           simp[go_sem]
           refine(four_res H.chaseref02_four x4.wf hbnd).mono ?_
           rintro _ _ ⟨rfl,rfl⟩
           have x5':=Ext.new x4.wf (.cells 5 false (u8s (oct4 U)))
           have x5:=x4.trans x5'
           have go5:=go4.ext x5' x4.wf
           have happ:=go5.app x5.nx x5.wf (m:=oct4 U) (x:= .slice s4.nx 0 4 (.known 4)) (.inr ⟨s4.nx,0,_,rfl,rd_all (ty:=5) (l:=false) (by simp[hget_cons]) rfl⟩) (by rw[oct4_len];omega)
           have ho4:(o++oct4 U).length=o.length+4:=by rw[List.length_append,oct4_len]
           generalize o++oct4 U=O2 at*
           simp[go_sem]
           refine happ.mono ?_
           rintro v6 s6 ⟨go6,f6⟩
           have x6:=x5.frm f6 go5.ge
           simp[go_sem,g0,g7]
           exact ih2 O2 [] v6 .nilslice _ s6 (by omega) (by simp) (by simp) x6 go6 (Grow.nil _ _) (by simp[AV.nms]) (by simp[go_sem,g0]) (by simp[go_sem]) (by simp[go_sem]) (by simp[go_sem,g7,ek])
          ·have hU':(4294967296:Int)≤(U:Int):=by omega
           have hU2:4294967296≤U:=by omega
           rw[if_neg hU]at hR
           subst hR
           simp[go_sem,hU',hU2,finB,x3]
         ·rw[if_neg h5]at hR
          simp only at hR
          subst hR
          have h5':(P.length:Int)<5:=by omega
          have h5n:P.length<5:=by omega
          subst e
          simp[go_sem,g0,g5,g6,g7,h5',h5n]
          exact ih2 o P vo _ _ s2 (by omega) (by omega) hPc x2 go2 gP hd2 (by simp[go_sem,g0]) (by simp[go_sem,g5]) (by simp[go_sem]) (by simp[go_sem,g7,ek])
theorem refUnbase85_tells (H:B.H_chaseref02_Unbase85 T) (hwf:st.Wf) {s:List UInt8} (hs:s.length<1000000000000):Tells T st (.fn 188 [] []) [.str s] (toU (b85T s)):=by
 refine tells_of H.e H.f rfl ?_
 unfold b85T readT
 by_cases h:65536<s.length
 ·have h':(65536:Int)<s.length:=by omega
  simp[B.chaseref02_Unbase85,go_sem,h,h',toU,Ext.refl hwf]
 ·have h':¬(65536:Int)<s.length:=by omega
  simp[B.chaseref02_Unbase85,go_sem,h,h']
  refine(refB_loop H (s:=s) (by omega) (st0:=st) s.length 0 [] [] .nilslice .nilslice _ st (by simp) (by simp) (by simp) (by simp) (.refl hwf) (Grow.nil _ _) (Grow.nil _ _) (by simp[AV.nms]) (by simp[go_sem]) (by simp[go_sem]) (by simp[go_sem]) (by simp[go_sem])).mono ?_
  rintro x e' s' ⟨hx,⟨rfl,hn⟩ | ⟨rfl,k2,k3,k4⟩⟩
  ·rw[List.drop_zero]at hn
   simp[go_sem,hn,toU,hx]
  ·rw[List.drop_zero]at k2 k3 k4
   simp[go_sem,k2,k3,k4,hx]
   cases hh:runD tensStep ([],[],false) s 0 with
   | none=>rfl
   | some p=>rfl
end Go.Ev

/- The readers of the scanner. -/
namespace Go.Ev
open Go
set_option linter.unusedSimpArgs false
set_option linter.unusedSectionVars false
set_option linter.unusedVariables false
variable {T : Tab} {st : St}
theorem fin3 {s2:St} (hx:Ext st s2) (hg:hget s2.h st.nx=some (.cells 134 true [.int .i64 0,.int .i64 0,.str []])) (O:T3):
  wrCells s2.h st.nx 0 [.int .i64 O.1.1,.int .i64 O.1.2.1,.str O.1.2.2]=some (hset s2.h st.nx (.cells 134 true [.int .i64 O.1.1,.int .i64 O.1.2.1,.str O.1.2.2]))∧
   rdCells (hset s2.h st.nx (.cells 134 true [.int .i64 O.1.1,.int .i64 O.1.2.1,.str O.1.2.2])) st.nx 0 3=some [.int .i64 O.1.1,.int .i64 O.1.2.1,.str O.1.2.2]∧Ext st ⟨hset s2.h st.nx (.cells 134 true [.int .i64 O.1.1,.int .i64 O.1.2.1,.str O.1.2.2]),s2.nx⟩:=
 ⟨tok_wr hg,tok_rd (hget_hset_self hg),hx.setNew hg (Nat.le_refl _)⟩
theorem brace_tells (H:B.H_scan_reader_brace T) (hwf:st.Wf) {p i:Nat} {s:List UInt8} (a:At st p s i) {c:UInt8} (hc:s[i]? =some c):Tells T st (.fn 195 [] []) [.ptr p 0] (tk3 (if c=123 then((7,0,[]),1,0)else((8,0,[]),1,0))):=by
 refine tells_of H.e H.f rfl ?_
 have hx:=Ext.new hwf (.cells 134 true [.int .i64 0,.int .i64 0,.str []])
 have hg:=zero_tok st.h st.nx
 have a1:=a.ext hx hwf
 have q0:=a1.r0
 have q1:=a1.r1
 have y:=hx.trans (Ext.aside hx.wf 12)
 have c123:((c.toNat:Int)=123)↔c=123:=by rw[←UInt8.toNat_inj];simp;omega
 simp only[Nat.add_assoc,Nat.reduceAdd]at y
 by_cases h:c=123
 ·obtain⟨k1,k2,k3⟩:=fin3 (st:=st) y hg ((7,0,[]),1,0)
  simp only at k1 k2 k3
  simp[B.scan_reader_brace,go_sem,NO.run,RO.run,q0,q1,hc]
  simp[go_sem,c123,h,k1,WO.run,fresults,resVals,resVal,RO.run,k2,tk3,k3]
 ·obtain⟨k1,k2,k3⟩:=fin3 (st:=st) y hg ((8,0,[]),1,0)
  simp only at k1 k2 k3
  simp[B.scan_reader_brace,go_sem,NO.run,RO.run,q0,q1,hc]
  simp[go_sem,c123,h,k1,WO.run,fresults,resVals,resVal,RO.run,k2,tk3,k3]
theorem bracket_tells (H:B.H_scan_reader_bracket T) (hwf:st.Wf) {p i:Nat} {s:List UInt8} (a:At st p s i) {c:UInt8} (hc:s[i]? =some c):Tells T st (.fn 196 [] []) [.ptr p 0] (tk3 (textK 3 [c] 1)):=by
 refine tells_of H.e H.f rfl ?_
 have hx:=Ext.new hwf (.cells 134 true [.int .i64 0,.int .i64 0,.str []])
 have hg:=zero_tok st.h st.nx
 have a1:=a.ext hx hwf
 have q0:=a1.r0
 have q1:=a1.r1
 have y:=hx.trans (Ext.aside hx.wf 24)
 simp only[Nat.add_assoc,Nat.reduceAdd]at y
 have hs:=a.hs
 have hi:=a.hi
 obtain⟨I,hI⟩:∃I:Int,I=(i:Int):=⟨_,rfl⟩
 obtain⟨w,hw⟩:∃w:Int,w=(i:Int)+1:=⟨_,rfl⟩
 have ek:IntKind.i64.wrap (I+1)=w:=by rw[hI,wrap64' (by omega) (by omega),hw]
 rw[←hI]at q1
 obtain⟨c',hc',hd⟩:=a.hd
 rw[hc]at hc';cases hc'
 have hsub:asubS s (some (.int .i64 I)) (some (.int .i64 w))=some (.str [c]):=by
  rw[asubS_some (by omega) (by omega) (by omega),show I.toNat=i by omega,show w.toNat - i=1 by omega,hd];rfl
 clear a1 hI hw
 simp[B.scan_reader_bracket,go_sem,NO.run,RO.run,q0,q1,ek,hsub]
 refine(text_tells H.scan_text y.wf (k:=3) (x:=[c]) (n:=1) (by simp)).use fun s2 x2=> ?_
 obtain⟨k1,k2,k3⟩:=fin3 (st:=st) (y.trans x2) (x2.get y.wf hg) (textK 3 [c] 1)
 simp[go_sem,k1,WO.run,fresults,resVals,resVal,RO.run,k2,tk3,k3]
def quotedR (s:List UInt8):T3:=if(unquoteT s).2.2=0 then textK 6 (unquoteT s).1 (unquoteT s).2.1 else if(unquoteT s).2.2=26 then err3 26 else err3 37
def decoR (front:Nat) (u:List UInt8×Nat×Int):T3:=if u.2.2=0 then textK 6 u.1 (front+u.2.1)else if u.2.2=3 then err3 26 else err3 37
def lessR (R:List UInt8):T3:=if R.head? =some 60 then textK 3 [60,60] 2 else if R.head? =some 126 then decoR 2 (b85T (R.drop 1))else decoR 1 (hexT R)
def greaterR (R:List UInt8):T3:=if R.head? =some 62 then textK 3 [62,62] 2 else err3 37
def slashR (R:List UInt8):T3:=
 if R.head? =some 47 then textK 5 ((R.drop 1).take (runN isReg (R.drop 1))) (2+runN isReg (R.drop 1))else textK 4 (R.take (runN isReg R)) (1+runN isReg R)
theorem unquoteT_le (s:List UInt8):(unquoteT s).1.length≤1000∧(unquoteT s).2.1≤s.length:=by
 unfold unquoteT
 split
 ·split
  ·split
   ·simp
   ·split
    ·simp
    ·simp only;omega
  ·simp
 ·simp
theorem hexG_n:∀(s:List UInt8) (i:Nat) (l D:List Nat) (n:Nat),hexG s i l=some (D,n)→n≤i+s.length
 | [],i,l,D,n,h=>by cases h
 | c::r,i,l,D,n,h=>by
   unfold hexG at h
   split at h
   ·injection h with h;injection h with h1 h2;subst h2;simp only[List.length_cons];omega
   ·split at h
    ·have:=hexG_n r _ _ _ _ h;simp only[List.length_cons];omega
    ·split at h
     ·cases h
     ·have:=hexG_n r _ _ _ _ h;simp only[List.length_cons];omega
theorem hexT_le (s:List UInt8):(hexT s).1.length≤65536∧(hexT s).2.1≤s.length:=by
 unfold hexT
 split
 ·simp
 ·split
  ·simp
  ·rename_i l n h
   have h1:=hexG_len _ _ _ _ _ h
   have h2:=hexG_n _ _ _ _ _ h
   have h3:=prs_len l
   simp only[List.length_nil]at h1⊢
   omega
theorem runD_n {σ:Type} {stepF:σ→UInt8→Option (Bool×σ)}:∀(s:List UInt8) (i:Nat) (x y:σ) (n:Nat),runD stepF x s i=some (y,n)→n≤i+s.length
 | [],i,x,y,n,h=>by cases h
 | c::r,i,x,y,n,h=>by
   unfold runD at h
   split at h
   ·have:=runD_n r _ _ _ _ h;simp only[List.length_cons];omega
   ·split at h
    ·cases h
    ·injection h with h;injection h with h1 h2;subst h2;simp only[List.length_cons];omega
    ·have:=runD_n r _ _ _ _ h;simp only[List.length_cons];omega
theorem b85T_le (s:List UInt8):(b85T s).1.length≤65536∧(b85T s).2.1≤s.length:=by
 unfold b85T readT
 split
 ·simp
 ·split
  ·simp
  ·rename_i x n h
   have h2:=runD_n _ _ _ _ _ h
   split
   ·simp
   ·simp only
    omega
theorem At.head {p i:Nat} {s:List UInt8} (a:At st p s i):s[i+1]? =(s.drop (i+1)).head? :=by
 rw[List.head?_drop]
theorem quoted_tells (H:B.H_scan_reader_quoted T) (hwf:st.Wf) {p i:Nat} {s:List UInt8} (a:At st p s i):Tells T st (.fn 193 [] []) [.ptr p 0] (tk3 (quotedR (s.drop i))):=by
 refine tells_of H.e H.f rfl ?_
 have hx:=Ext.new hwf (.cells 134 true [.int .i64 0,.int .i64 0,.str []])
 have hg:=zero_tok st.h st.nx
 have a1:=a.ext hx hwf
 have q0:=a1.r0
 have q1:=a1.r1
 have y:=hx.trans (Ext.aside hx.wf 19)
 simp only[Nat.add_assoc,Nat.reduceAdd]at y
 have hs:=a.hs
 have hi:=a.hi
 have hsub:asubS s (some (.int .i64 (i:Int))) none=some (.str (s.drop i)):=by rw[asubS_from (by omega) (by omega)];simp
 have hle:=unquoteT_le (s.drop i)
 have hun:=fun(st':St) (hw:st'.Wf)=>unquote_tells (st:=st') H.lex_Unquote hw (s:=s.drop i) (by simp;omega)
 unfold quotedR
 generalize unquoteT (s.drop i)=u at*
 obtain⟨x,n,e⟩:=u
 simp only at hle⊢
 simp[B.scan_reader_quoted,go_sem,NO.run,RO.run,q0,q1,hsub]
 refine(hun _ y.wf).use fun s2 x2=> ?_
 have y2:=y.trans x2
 have g2:=x2.get y.wf hg
 by_cases h0:e=0
 ·subst h0
  simp[go_sem,toU]
  refine(text_tells H.scan_text y2.wf (k:=6) (x:=x) (n:=n) (by omega)).use fun s3 x3=> ?_
  obtain⟨k1,k2,k3⟩:=fin3 (st:=st) (y2.trans x3) (x3.get y2.wf g2) (textK 6 x n)
  simp[go_sem,k1,WO.run,fresults,resVals,resVal,RO.run,k2,tk3,k3]
 ·by_cases h26:e=26
  ·subst h26
   obtain⟨k1,k2,k3⟩:=fin3 (st:=st) y2 g2 (err3 26)
   simp only[err3]at k1 k2 k3
   simp[go_sem,toU,k1,WO.run,fresults,resVals,resVal,RO.run,k2,tk3,err3,k3]
  ·obtain⟨k1,k2,k3⟩:=fin3 (st:=st) y2 g2 (err3 37)
   simp only[err3]at k1 k2 k3
   simp[go_sem,toU,h0,h26,k1,WO.run,fresults,resVals,resVal,RO.run,k2,tk3,err3,k3]
theorem greater_tells (H:B.H_scan_reader_greater T) (hwf:st.Wf) {p i:Nat} {s:List UInt8} (a:At st p s i):Tells T st (.fn 198 [] []) [.ptr p 0] (tk3 (greaterR (s.drop (i+1)))):=by
 refine tells_of H.e H.f rfl ?_
 have hx:=Ext.new hwf (.cells 134 true [.int .i64 0,.int .i64 0,.str []])
 have hg:=zero_tok st.h st.nx
 have a1:=a.ext hx hwf
 obtain⟨l,g⟩:=a1.g
 have hs:=a.hs
 have hf:=follows_tells H.scan_reader_follows hx.wf g (by omega) a.hi (c:=62)
 obtain⟨R,hR⟩:∃R,R=s.drop (i+1):=⟨_,rfl⟩
 rw[a.head,←hR]at hf
 rw[←hR]
 clear hR
 unfold greaterR
 simp[B.scan_reader_greater,go_sem,NO.run]
 refine hf.use fun s2 x2=> ?_
 have y2:=hx.trans x2
 have g2:=x2.get hx.wf hg
 by_cases h:R.head? =some 62
 ·rw[if_pos h]
  rw[h]
  simp[go_sem]
  refine(text_tells H.scan_text y2.wf (k:=3) (x:=[62,62]) (n:=2) (by simp)).use fun s3 x3=> ?_
  obtain⟨k1,k2,k3⟩:=fin3 (st:=st) (y2.trans x3) (x3.get y2.wf g2) (textK 3 [62,62] 2)
  simp[go_sem,k1,WO.run,fresults,resVals,resVal,RO.run,k2,tk3,k3]
 ·rw[if_neg h]
  have hb:(R.head? == some 62)=false:=by simpa using h
  rw[hb]
  obtain⟨k1,k2,k3⟩:=fin3 (st:=st) y2 g2 (err3 37)
  simp only[err3]at k1 k2 k3
  simp[go_sem,k1,WO.run,fresults,resVals,resVal,RO.run,k2,tk3,err3,k3]
theorem asub_from' {s:List UInt8} {i f:Nat} {I w:Int} (hI:I=i) (hw:w=I+f) (h:i+f≤s.length):asubS s (some (.int .i64 w)) none=some (.str (s.drop (i+f))):=by
 rw[asubS_from (by omega) (by omega),show w.toNat=i+f by omega]
theorem slash_tells (H:B.H_scan_reader_slash T) (hwf:st.Wf) {p i:Nat} {s:List UInt8} (a:At st p s i):Tells T st (.fn 199 [] []) [.ptr p 0] (tk3 (slashR (s.drop (i+1)))):=by
 refine tells_of H.e H.f rfl ?_
 have hx:=Ext.new hwf (.cells 134 true [.int .i64 0,.int .i64 0,.str []])
 have hg:=zero_tok st.h st.nx
 have a1:=a.ext hx hwf
 obtain⟨l,g⟩:=a1.g
 have hs:=a.hs
 have hi:=a.hi
 have hf:=follows_tells H.scan_reader_follows hx.wf g (by omega) a.hi (c:=47)
 obtain⟨R,hR⟩:∃R,R=s.drop (i+1):=⟨_,rfl⟩
 have hRl:R.length=s.length - (i+1):=by rw[hR,List.length_drop]
 rw[a.head,←hR]at hf
 rw[←hR]
 obtain⟨O,hO⟩:∃O,O=slashR R:=⟨_,rfl⟩
 rw[←hO]
 unfold slashR at hO
 simp[B.scan_reader_slash,go_sem,NO.run]
 refine hf.use fun s2 x2=> ?_
 have y2:=hx.trans x2
 have g2:=x2.get hx.wf hg
 have a2:=a1.ext x2 hx.wf
 have q0:=a2.r0
 have q1:=a2.r1
 obtain⟨I,hI⟩:∃I:Int,I=(i:Int):=⟨_,rfl⟩
 rw[←hI]at q1
 have y3:=y2.trans (Ext.aside y2.wf 14)
 have g3:hget (⟨s2.h,s2.nx+14⟩:St).h st.nx=some (.cells 134 true [.int .i64 0,.int .i64 0,.str []]):=g2
 have main:∀(f:Nat) (k:Int) (D:List UInt8),D.length≤R.length→f≤2→O=textK k (D.take (runN isReg D)) (f+runN isReg D)→
   Tells T ⟨s2.h,s2.nx+14⟩ (.fn 182 [] []) [.str D,.fn 67 [] []] (.int .i64 (runN isReg D:Nat))∧asubS D none (some (.int .i64 (runN isReg D:Nat)))=some (.str (D.take (runN isReg D)))∧IntKind.i64.wrap ((f:Int)+(runN isReg D:Nat))=((f+runN isReg D:Nat):Int)∧
   ∀s4,Ext ⟨s2.h,s2.nx+14⟩ s4→Tells T s4 (.fn 209 [] []) [.int .i64 k,.str (D.take (runN isReg D)),.int .i64 ((f+runN isReg D:Nat):Int)] (tk3 O):=by
  intro f k D hD hf hOO
  have hrl:=runN_le isReg D
  refine⟨run_tells H.scan_run_string y3.wf (fun s' hw c=>regular_tells H.lex_Regular hw c) (by omega),?_,by rw[wrap64' (by omega) (by omega)];omega,fun s4 x4=> ?_⟩
  ·rw[asubS_to (by omega) (by omega)];simp
  ·rw[hOO]
   exact text_tells H.scan_text x4.wf (by simp;omega)
 by_cases h:R.head? =some 47
 ·rw[if_pos h]at hO
  obtain⟨r,hr⟩:∃r,R=47::r:=by
   cases R with
   | nil=>simp at h
   | cons c r=>simp at h;exact⟨r,by rw[h]⟩
  have hb:(R.head? == some 47)=true:=by simp[h]
  rw[hb]
  obtain⟨w,hw⟩:∃w:Int,w=I+2:=⟨_,rfl⟩
  have ek:IntKind.i64.wrap (I+2)=w:=by rw[hw,wrap64' (by omega) (by omega)]
  have hl2:i+2≤s.length:=by have:=congrArg List.length hr;rw[hRl]at this;simp at this;omega
  have hsub:asubS s (some (.int .i64 w)) none=some (.str (R.drop 1)):=by
   rw[asub_from' hI (f:=2) (by omega) hl2,hR,List.drop_drop]
  obtain⟨m1,m2,m3,m4⟩:=main 2 5 (R.drop 1) (by simp) (by omega) hO
  clear main hO hr hR
  generalize R.drop 1=D at*
  generalize runN isReg D=N at*
  generalize D.take N=X at*
  generalize hZ:2+N=Z at*
  have m3':IntKind.i64.wrap (2+(N:Int))=(Z:Int):=m3
  simp[go_sem,RO.run,q0,q1,ek,hsub]
  refine m1.use fun s4 x4=> ?_
  simp[go_sem,m2,m3']
  refine(m4 s4 x4).use fun s5 x5=> ?_
  obtain⟨k1,k2,k3⟩:=fin3 (st:=st) ((y3.trans x4).trans x5) (x5.get x4.wf (x4.get y3.wf g3)) O
  simp[go_sem,k1,WO.run,fresults,resVals,resVal,RO.run,k2,tk3,k3]
 ·rw[if_neg h]at hO
  have hb:(R.head? == some 47)=false:=by simpa using h
  rw[hb]
  obtain⟨w,hw⟩:∃w:Int,w=I+1:=⟨_,rfl⟩
  have ek:IntKind.i64.wrap (I+1)=w:=by rw[hw,wrap64' (by omega) (by omega)]
  have hsub:asubS s (some (.int .i64 w)) none=some (.str R):=by
   rw[asub_from' hI (f:=1) (by omega) (by omega),hR]
  obtain⟨m1,m2,m3,m4⟩:=main 1 4 R (by omega) (by omega) hO
  clear main hO hR
  generalize runN isReg R=N at*
  generalize R.take N=X at*
  generalize hZ:1+N=Z at*
  have m3':IntKind.i64.wrap (1+(N:Int))=(Z:Int):=m3
  simp[go_sem,RO.run,q0,q1,ek,hsub]
  refine m1.use fun s4 x4=> ?_
  simp[go_sem,m2,m3']
  refine(m4 s4 x4).use fun s5 x5=> ?_
  obtain⟨k1,k2,k3⟩:=fin3 (st:=st) ((y3.trans x4).trans x5) (x5.get x4.wf (x4.get y3.wf g3)) O
  simp[go_sem,k1,WO.run,fresults,resVals,resVal,RO.run,k2,tk3,k3]
end Go.Ev

/- What begins with the sign less; the token at a reader's place. -/
namespace Go.Ev
open Go
set_option linter.unusedSimpArgs false
set_option linter.unusedSectionVars false
set_option linter.unusedVariables false
variable {T : Tab} {st : St}
theorem less_tells (H:B.H_scan_reader_less T) (hwf:st.Wf) {p i:Nat} {s:List UInt8} (a:At st p s i):Tells T st (.fn 197 [] []) [.ptr p 0] (tk3 (lessR (s.drop (i+1)))):=by
 refine tells_of H.e H.f rfl ?_
 have hx:=Ext.new hwf (.cells 134 true [.int .i64 0,.int .i64 0,.str []])
 have hg:=zero_tok st.h st.nx
 have a1:=a.ext hx hwf
 obtain⟨l,g⟩:=a1.g
 have hs:=a.hs
 have hi:=a.hi
 have hf:=follows_tells H.scan_reader_follows hx.wf g (by omega) a.hi (c:=60)
 obtain⟨R,hR⟩:∃R,R=s.drop (i+1):=⟨_,rfl⟩
 have hRl:R.length=s.length - (i+1):=by rw[hR,List.length_drop]
 have hhead:=a.head
 rw[←hR]at hhead
 rw[hhead]at hf
 rw[←hR]
 obtain⟨O,hO⟩:∃O,O=lessR R:=⟨_,rfl⟩
 rw[←hO]
 unfold lessR at hO
 simp[B.scan_reader_less,go_sem,NO.run]
 refine hf.use fun s2 x2=> ?_
 have y2:=hx.trans x2
 have g2:=x2.get hx.wf hg
 by_cases h:R.head? =some 60
 ·rw[if_pos h]at hO
  have hb:(R.head? == some 60)=true:=by simp[h]
  rw[hb]
  simp[go_sem]
  refine(text_tells H.scan_text y2.wf (k:=3) (x:=[60,60]) (n:=2) (by simp)).use fun s3 x3=> ?_
  rw[←hO]
  obtain⟨k1,k2,k3⟩:=fin3 (st:=st) (y2.trans x3) (x3.get y2.wf g2) O
  simp[go_sem,k1,WO.run,fresults,resVals,resVal,RO.run,k2,tk3,k3]
 rw[if_neg h]at hO
 have hb:(R.head? == some 60)=false:=by simpa using h
 rw[hb]
 have a2:=a1.ext x2 hx.wf
 obtain⟨l2,gg2⟩:=a2.g
 have hf2:=follows_tells H.scan_reader_follows y2.wf gg2 (by omega) a.hi (c:=126)
 rw[hhead]at hf2
 simp[go_sem]
 refine hf2.use fun s3 x3=> ?_
 have y3:=y2.trans x3
 have g3:=x3.get y2.wf g2
 have a3:=a2.ext x3 y2.wf
 have q0:=a3.r0
 have q1:=a3.r1
 obtain⟨I,hI⟩:∃I:Int,I=(i:Int):=⟨_,rfl⟩
 rw[←hI]at q1
 have y4:=y3.trans (Ext.aside y3.wf 22)
 have g4:hget (⟨s3.h,s3.nx+22⟩:St).h st.nx=some (.cells 134 true [.int .i64 0,.int .i64 0,.str []]):=g3
 have main:∀(f:Nat) (u:List UInt8×Nat×Int),f≤2→u.1.length≤65536→u.2.1≤s.length→O=decoR f u→
   (u.2.2=0∧IntKind.i64.wrap ((f:Int)+(u.2.1:Nat))=((f+u.2.1:Nat):Int)∧∀s5,s5.Wf→Tells T s5 (.fn 209 [] []) [.int .i64 6,.str u.1,.int .i64 ((f+u.2.1:Nat):Int)] (tk3 O))∨(u.2.2≠0∧u.2.2=3∧O=err3 26)∨(u.2.2≠0∧u.2.2≠3∧O=err3 37):=by
  intro f u hf h1 h2 hOO
  unfold decoR at hOO
  by_cases h0:u.2.2=0
  ·rw[if_pos h0]at hOO
   refine .inl ⟨h0,by rw[wrap64' (by omega) (by omega)];omega,fun s5 hw=> ?_⟩
   rw[hOO]
   exact text_tells H.scan_text hw (by omega)
  ·rw[if_neg h0]at hOO
   by_cases h3:u.2.2=3
   ·rw[if_pos h3]at hOO;exact .inr (.inl ⟨h0,h3,hOO⟩)
   ·rw[if_neg h3]at hOO;exact .inr (.inr ⟨h0,h3,hOO⟩)
 by_cases h2:R.head? =some 126
 ·rw[if_pos h2]at hO
  obtain⟨r,hr⟩:∃r,R=126::r:=by
   cases R with
   | nil=>simp at h2
   | cons c r=>simp at h2;exact⟨r,by rw[h2]⟩
  have hb2:(R.head? == some 126)=true:=by simp[h2]
  rw[hb2]
  obtain⟨w,hw⟩:∃w:Int,w=I+2:=⟨_,rfl⟩
  have ek:IntKind.i64.wrap (I+2)=w:=by rw[hw,wrap64' (by omega) (by omega)]
  have hl2:i+2≤s.length:=by have:=congrArg List.length hr;rw[hRl]at this;simp at this;omega
  have hsub:asubS s (some (.int .i64 w)) none=some (.str (R.drop 1)):=by
   rw[asub_from' hI (f:=2) (by omega) hl2,hR,List.drop_drop]
  have hle:=b85T_le (R.drop 1)
  have hdl:(R.drop 1).length≤s.length:=by rw[List.length_drop];omega
  have hcall:=unbase85_tells H.ascii_Unbase85 y4.wf (s:=R.drop 1) (by omega)
  have hm:=main 2 _ (by omega) hle.1 (by omega) hO
  clear main hO hr hle
  generalize b85T (R.drop 1)=u at*
  generalize R.drop 1=D at*
  obtain⟨x,n,e⟩:=u
  simp only at hm
  simp[go_sem,RO.run,q0,q1,ek,hsub]
  refine hcall.use fun s5 x5=> ?_
  have y5:=y4.trans x5
  have g5:=x5.get y4.wf g4
  rcases hm with ⟨rfl,m2,m3⟩ | ⟨h0,h3,rfl⟩ | ⟨h0,h3,rfl⟩
  ·have m2':IntKind.i64.wrap (2+(n:Int))=((2+n:Nat):Int):=m2
   generalize 2+n=Z at*
   simp[go_sem,toU,m2']
   refine(m3 s5 y5.wf).use fun s6 x6=> ?_
   obtain⟨k1,k2,k3⟩:=fin3 (st:=st) (y5.trans x6) (x6.get y5.wf g5) O
   simp[go_sem,k1,WO.run,fresults,resVals,resVal,RO.run,k2,tk3,k3]
  ·obtain⟨k1,k2,k3⟩:=fin3 (st:=st) y5 g5 (err3 26)
   simp only[err3]at k1 k2 k3
   simp[go_sem,toU,h3,k1,WO.run,fresults,resVals,resVal,RO.run,k2,tk3,err3,k3]
  ·obtain⟨k1,k2,k3⟩:=fin3 (st:=st) y5 g5 (err3 37)
   simp only[err3]at k1 k2 k3
   simp[go_sem,toU,h0,h3,k1,WO.run,fresults,resVals,resVal,RO.run,k2,tk3,err3,k3]
 ·rw[if_neg h2]at hO
  have hb2:(R.head? == some 126)=false:=by simpa using h2
  rw[hb2]
  obtain⟨w,hw⟩:∃w:Int,w=I+1:=⟨_,rfl⟩
  have ek:IntKind.i64.wrap (I+1)=w:=by rw[hw,wrap64' (by omega) (by omega)]
  have hsub:asubS s (some (.int .i64 w)) none=some (.str R):=by
   rw[asub_from' hI (f:=1) (by omega) (by omega),hR]
  have hle:=hexT_le R
  have hcall:=unhex_tells H.ascii_Unhex y4.wf (s:=R) (by omega)
  have hm:=main 1 _ (by omega) hle.1 (by omega) hO
  clear main hO hle
  generalize hexT R=u at*
  obtain⟨x,n,e⟩:=u
  simp only at hm
  simp[go_sem,RO.run,q0,q1,ek,hsub]
  refine hcall.use fun s5 x5=> ?_
  have y5:=y4.trans x5
  have g5:=x5.get y4.wf g4
  rcases hm with ⟨rfl,m2,m3⟩ | ⟨h0,h3,rfl⟩ | ⟨h0,h3,rfl⟩
  ·have m2':IntKind.i64.wrap (1+(n:Int))=((1+n:Nat):Int):=m2
   generalize 1+n=Z at*
   simp[go_sem,toU,m2']
   refine(m3 s5 y5.wf).use fun s6 x6=> ?_
   obtain⟨k1,k2,k3⟩:=fin3 (st:=st) (y5.trans x6) (x6.get y5.wf g5) O
   simp[go_sem,k1,WO.run,fresults,resVals,resVal,RO.run,k2,tk3,k3]
  ·obtain⟨k1,k2,k3⟩:=fin3 (st:=st) y5 g5 (err3 26)
   simp only[err3]at k1 k2 k3
   simp[go_sem,toU,h3,k1,WO.run,fresults,resVals,resVal,RO.run,k2,tk3,err3,k3]
  ·obtain⟨k1,k2,k3⟩:=fin3 (st:=st) y5 g5 (err3 37)
   simp only[err3]at k1 k2 k3
   simp[go_sem,toU,h0,h3,k1,WO.run,fresults,resVals,resVal,RO.run,k2,tk3,err3,k3]
def wordK (s:List UInt8):T3:=
 if(wordT (s.take (runN isReg s))).2.2.2≠0 then err3 (wordT (s.take (runN isReg s))).2.2.2
 else(((wordT (s.take (runN isReg s))).1,(wordT (s.take (runN isReg s))).2.1,(wordT (s.take (runN isReg s))).2.2.1),runN isReg s,0)
def tokS:List UInt8→T3
 | []=>err3 37
 | c::R=>
   if c=40 then quotedR (c::R)else if c=41 then err3 37 else if c=123 then((7,0,[]),1,0)else if c=125 then((8,0,[]),1,0)
   else if c=91∨c=93 then textK 3 [c] 1 else if c=60 then lessR R else if c=62 then greaterR R else if c=47 then slashR R
   else if 128≤c.toNat∧c.toNat<160 then binR c R else wordK (c::R)
def readM:List (AV×AV):=[(.int .u8 40,.fn 193 [] []),(.int .u8 41,.fn 194 [] []),(.int .u8 123,.fn 195 [] []),(.int .u8 125,.fn 195 [] []),(.int .u8 91,.fn 196 [] []),(.int .u8 93,.fn 196 [] []),(.int .u8 60,.fn 197 [] []),(.int .u8 62,.fn 198 [] []),(.int .u8 47,.fn 199 [] [])]
def readV (c:UInt8):Option AV:=
 if c=40 then some (.fn 193 [] [])else if c=41 then some (.fn 194 [] [])else if c=123 then some (.fn 195 [] [])else if c=125 then some (.fn 195 [] [])else if c=91 then some (.fn 196 [] [])else if c=93 then some (.fn 196 [] [])else if c=60 then some (.fn 197 [] [])else if c=62 then some (.fn 198 [] [])else if c=47 then some (.fn 199 [] [])else none
theorem lookup_reader (c:UInt8):mfind (.i .u8) (.int .u8 (c.toNat:Int)) readM=some (readV c):=by
 have hn:∀k:UInt8,c≠k→¬(c.toNat:Int)=(k.toNat:Int):=fun k h=>u8_ne h rfl
 unfold readM readV
 by_cases h1:c=40
 ·subst h1;rfl
 by_cases h2:c=41
 ·subst h2;rfl
 by_cases h3:c=123
 ·subst h3;rfl
 by_cases h4:c=125
 ·subst h4;rfl
 by_cases h5:c=91
 ·subst h5;rfl
 by_cases h6:c=93
 ·subst h6;rfl
 by_cases h7:c=60
 ·subst h7;rfl
 by_cases h8:c=62
 ·subst h8;rfl
 by_cases h9:c=47
 ·subst h9;rfl
 have m1:=hn _ h1
 have m2:=hn _ h2
 have m3:=hn _ h3
 have m4:=hn _ h4
 have m5:=hn _ h5
 have m6:=hn _ h6
 have m7:=hn _ h7
 have m8:=hn _ h8
 have m9:=hn _ h9
 simp at m1 m2 m3 m4 m5 m6 m7 m8 m9
 simp[mfind,cellEqK,h1,h2,h3,h4,h5,h6,h7,h8,h9,m1,m2,m3,m4,m5,m6,m7,m8,m9]
theorem readers_res (H:B.H_scan_readers T) (hwf:st.Wf):CRes (call T (.fn 185 [] []) [] st) fun v s'=>v= .map st.nx∧Ext st s'∧hget s'.h st.nx=some (.map readM):=by
 refine call_res H.e H.f rfl ?_
 have hm:∀es,dropLoc st.nx ((st.nx,AObj.map es)::st.h)=(st.nx,AObj.map es)::st.h:=fun es=>by
  have:locNames st.nx ((st.nx,AObj.map es)::st.h)=[]:=by
   simp only[locNames]
   exact locNames_nil fun n o ho=>hwf.lt n o ho
  rw[dropLoc_eq,this,hdrop_nil]
 simp[B.scan_readers,go_sem,NO.run,WO.run,hget_cons,hset_cons,mins,cellEqK,hm]
 exact⟨Ext.new hwf _,rfl⟩
end Go.Ev

/- The token at a reader's place; Next. -/
namespace Go.Ev
open Go
set_option linter.unusedSimpArgs false
set_option linter.unusedSectionVars false
set_option linter.unusedVariables false
variable {T : Tab} {st : St}
theorem reader_found (H:B.H_scan_readers T) {p i:Nat} {s:List UInt8} {c:UInt8} {R:List UInt8} (hc:s[i]? =some c) (hR:R=s.drop (i+1)) (hd:s.drop i=c::R) {f:AV} (hf:readV c=some f) (hwf:st.Wf) (a:At st p s i):
  Tells T st f [.ptr p 0] (tk3 (tokS (c::R))):=by
 unfold readV at hf
 by_cases h1:c=40
 ·rw[if_pos h1]at hf
  injection hf with hf;subst hf
  have:=quoted_tells H.scan_reader_quoted hwf a
  rw[hd]at this
  rw[tokS,if_pos h1];exact this
 rw[if_neg h1]at hf
 by_cases h2:c=41
 ·rw[if_pos h2]at hf
  injection hf with hf;subst hf
  rw[tokS,if_neg h1,if_pos h2]
  exact stray_tells H.scan_reader_stray hwf
 rw[if_neg h2]at hf
 by_cases h3:c=123
 ·rw[if_pos h3]at hf
  injection hf with hf;subst hf
  have:=brace_tells H.scan_reader_brace hwf a hc
  rw[if_pos h3]at this
  rw[tokS,if_neg h1,if_neg h2,if_pos h3];exact this
 rw[if_neg h3]at hf
 by_cases h4:c=125
 ·rw[if_pos h4]at hf
  injection hf with hf;subst hf
  have:=brace_tells H.scan_reader_brace hwf a hc
  rw[if_neg h3]at this
  rw[tokS,if_neg h1,if_neg h2,if_neg h3,if_pos h4];exact this
 rw[if_neg h4]at hf
 by_cases h5:c=91
 ·rw[if_pos h5]at hf
  injection hf with hf;subst hf
  rw[tokS,if_neg h1,if_neg h2,if_neg h3,if_neg h4,if_pos (.inl h5)]
  exact bracket_tells H.scan_reader_bracket hwf a hc
 rw[if_neg h5]at hf
 by_cases h6:c=93
 ·rw[if_pos h6]at hf
  injection hf with hf;subst hf
  rw[tokS,if_neg h1,if_neg h2,if_neg h3,if_neg h4,if_pos (.inr h6)]
  exact bracket_tells H.scan_reader_bracket hwf a hc
 rw[if_neg h6]at hf
 have h56:¬(c=91∨c=93):=fun h=>h.elim h5 h6
 by_cases h7:c=60
 ·rw[if_pos h7]at hf
  injection hf with hf;subst hf
  have:=less_tells H.scan_reader_less hwf a
  rw[←hR]at this
  rw[tokS,if_neg h1,if_neg h2,if_neg h3,if_neg h4,if_neg h56,if_pos h7];exact this
 rw[if_neg h7]at hf
 by_cases h8:c=62
 ·rw[if_pos h8]at hf
  injection hf with hf;subst hf
  have:=greater_tells H.scan_reader_greater hwf a
  rw[←hR]at this
  rw[tokS,if_neg h1,if_neg h2,if_neg h3,if_neg h4,if_neg h56,if_neg h7,if_pos h8];exact this
 rw[if_neg h8]at hf
 by_cases h9:c=47
 ·rw[if_pos h9]at hf
  injection hf with hf;subst hf
  have:=slash_tells H.scan_reader_slash hwf a
  rw[←hR]at this
  rw[tokS,if_neg h1,if_neg h2,if_neg h3,if_neg h4,if_neg h56,if_neg h7,if_neg h8,if_pos h9];exact this
 rw[if_neg h9]at hf
 cases hf
theorem reader_none {c:UInt8} {R:List UInt8} (hf:readV c=none):tokS (c::R)=if 128≤c.toNat∧c.toNat<160 then binR c R else wordK (c::R):=by
 unfold readV at hf
 by_cases h1:c=40
 ·rw[if_pos h1]at hf;cases hf
 rw[if_neg h1]at hf
 by_cases h2:c=41
 ·rw[if_pos h2]at hf;cases hf
 rw[if_neg h2]at hf
 by_cases h3:c=123
 ·rw[if_pos h3]at hf;cases hf
 rw[if_neg h3]at hf
 by_cases h4:c=125
 ·rw[if_pos h4]at hf;cases hf
 rw[if_neg h4]at hf
 by_cases h5:c=91
 ·rw[if_pos h5]at hf;cases hf
 rw[if_neg h5]at hf
 by_cases h6:c=93
 ·rw[if_pos h6]at hf;cases hf
 rw[if_neg h6]at hf
 by_cases h7:c=60
 ·rw[if_pos h7]at hf;cases hf
 rw[if_neg h7]at hf
 by_cases h8:c=62
 ·rw[if_pos h8]at hf;cases hf
 rw[if_neg h8]at hf
 by_cases h9:c=47
 ·rw[if_pos h9]at hf;cases hf
 have h56:¬(c=91∨c=93):=fun h=>h.elim h5 h6
 rw[tokS,if_neg h1,if_neg h2,if_neg h3,if_neg h4,if_neg h56,if_neg h7,if_neg h8,if_neg h9]
theorem token_tells175 (H:B.H_scan_reader_token T) (hwf:st.Wf) {p i:Nat} {s:List UInt8} (a:At st p s i):Tells T st (.fn 175 [] []) [.ptr p 0] (tk3 (tokS (s.drop i))):=by
 refine tells_of H.e H.f rfl ?_
 have hx:=Ext.new hwf (.cells 134 true [.int .i64 0,.int .i64 0,.str []])
 have hg:=zero_tok st.h st.nx
 have a1:=a.ext hx hwf
 have q0:=a1.r0
 have q1:=a1.r1
 have hs:=a.hs
 have hi:=a.hi
 obtain⟨c,hc,hd⟩:=a.hd
 have y:=hx.trans (Ext.aside hx.wf 12)
 have hgy:hget (⟨(st.nx,AObj.cells 134 true [.int .i64 0,.int .i64 0,.str []])::st.h,st.nx+1+12⟩:St).h st.nx=some (.cells 134 true [.int .i64 0,.int .i64 0,.str []]):=hg
 have ay:=a.ext y hwf
 simp only[Nat.add_assoc,Nat.reduceAdd]at y hgy ay
 obtain⟨O,hO⟩:∃O,O=tokS (s.drop i):=⟨_,rfl⟩
 rw[←hO]
 simp[B.scan_reader_token,go_sem,NO.run,RO.run,q0,q1,hc]
 refine(readers_res H.scan_readers y.wf).mono ?_
 rintro _ s2 ⟨rfl,x2,g2⟩
 have y2:=y.trans x2
 have hg2:=x2.get y.wf hgy
 have a2:=ay.ext x2 y.wf
 have hlk:=lookup_reader c
 cases hrv:readV c with
 | some f=>
   rw[hrv]at hlk
   have ht:=reader_found H.scan_readers hc rfl hd hrv y2.wf a2
   rw[←hd,←hO]at ht
   simp[go_sem,RO.run,g2,hlk,cellEqK]
   refine ht.use fun s3 x3=> ?_
   obtain⟨k1,k2,k3⟩:=fin3 (st:=st) (y2.trans x3) (x3.get y2.wf hg2) O
   simp[go_sem,k1,WO.run,fresults,resVals,resVal,RO.run,k2,tk3,k3]
 | none=>
   rw[hrv]at hlk
   have ht:=reader_none (R:=s.drop (i+1)) hrv
   rw[hd,ht]at hO
   simp[go_sem,RO.run,g2,hlk,cellEqK]
   by_cases hb:128≤c.toNat∧c.toNat<160
   ·rw[if_pos hb]at hO
    have hbin:=binary_tells H.scan_reader_binary y2.wf a2 hc hb.1
    rw[←hO]at hbin
    have b1:(128:Int)≤c.toNat:=by omega
    have b2:(c.toNat:Int)<160:=by omega
    simp[go_sem,hb.1,hb.2,b1,b2]
    refine hbin.use fun s3 x3=> ?_
    obtain⟨k1,k2,k3⟩:=fin3 (st:=st) (y2.trans x3) (x3.get y2.wf hg2) O
    simp[go_sem,k1,WO.run,fresults,resVals,resVal,RO.run,k2,tk3,k3]
   ·rw[if_neg hb]at hO
    have r0:=a2.r0
    have r1:=a2.r1
    have hsub:asubS s (some (.int .i64 (i:Int))) none=some (.str (s.drop i)):=by rw[asubS_from (by omega) (by omega)];simp
    have hrl:=runN_le isReg (s.drop i)
    rw[List.length_drop]at hrl
    have hrun:=fun(st':St) (hw:st'.Wf)=>run_tells (st:=st') H.scan_run_string hw (s:=s.drop i) (f:= .fn 67 [] []) (p:=isReg) (fun s' hw c=>regular_tells H.lex_Regular hw c) (by simp;omega)
    unfold wordK at hO
    rw[←hd]at hO
    generalize hN:runN isReg (s.drop i)=N at*
    have hword:=fun(st':St) (hw:st'.Wf)=>word_tells (st:=st') H.lex_Word hw (s:=(s.drop i).take N) (by simp;omega)
    obtain⟨I,hI⟩:∃I:Int,I=(i:Int):=⟨_,rfl⟩
    obtain⟨w,hw⟩:∃w:Int,w=I+(N:Int):=⟨_,rfl⟩
    have ek:IntKind.i64.wrap (I+(N:Int))=w:=by rw[hw,wrap64' (by omega) (by omega)]
    have hsub2:asubS s (some (.int .i64 I)) (some (.int .i64 w))=some (.str ((s.drop i).take N)):=by
     rw[asubS_some (by omega) (by omega) (by omega)]
     congr 3
     ·omega
     ·congr 1;omega
    rw[←hI]at r1 hsub
    have y3:=y2.trans (Ext.aside y2.wf 13)
    have a3:=a2.ext (Ext.aside y2.wf 13) y2.wf
    have hg3:hget (⟨s2.h,s2.nx+13⟩:St).h st.nx=some (.cells 134 true [.int .i64 0,.int .i64 0,.str []]):=hg2
    have hb':(128≤c.toNat∧(128:Int)≤c.toNat∧¬(c.toNat:Int)<160∧¬c.toNat<160)∨(¬128≤c.toNat∧¬(128:Int)≤c.toNat∧True∧True):=by
     by_cases h:128≤c.toNat
     ·exact .inl ⟨h,by omega,by omega,by omega⟩
     ·exact .inr ⟨h,by omega,trivial,trivial⟩
    generalize hWd:(s.drop i).take N=X at*
    generalize hWt:wordT X=Wt at*
    obtain⟨wk,wn,wx,we⟩:=Wt
    simp only at hO
    rcases hb' with ⟨b1,b2,b3,b4⟩ | ⟨b1,b2,b3,b4⟩
    all_goals
     simp[go_sem,b1,b2,b3,b4,RO.run,r0,r1,hsub]
     refine(hrun _ y3.wf).use fun s3 x3=> ?_
     have y4:=y3.trans x3
     have a4:=a3.ext x3 y3.wf
     have hg4:=x3.get y3.wf hg3
     have p0:=a4.r0
     have p1:=a4.r1
     rw[←hI]at p1
     simp[go_sem,RO.run,p0,p1,ek,hsub2]
     have y5:=y4.trans (Ext.aside y4.wf 25)
     refine(hword _ y5.wf).use fun s5 x5=> ?_
     have x6:=Ext.put y4.wf (s:=s5) x5 (Nat.le_refl _) (by omega) (.cells 134 true [.int .i64 wk,.int .i64 wn,.str wx])
     have y6:=y4.trans x6
     have hg6:=x6.get y4.wf hg4
     have hz:hget ((s3.nx,AObj.cells 134 true [.int .i64 wk,.int .i64 wn,.str wx])::s5.h) s3.nx=some (.cells 134 true [.int .i64 wk,.int .i64 wn,.str wx]):=by simp[hget_cons]
     simp[go_sem,toW,tokA,tokC,NO.run,WO.run,wr_tok]
     by_cases hwe:we=0
     ·rw[if_neg (by simpa using hwe)]at hO
      subst hO
      obtain⟨k1,k2,k3⟩:=fin3 (st:=st) y6 hg6 ((wk,wn,wx),N,0)
      simp only at k1 k2 k3
      simp[go_sem,hwe,RO.run,rd_tok,k1,WO.run,fresults,resVals,resVal,k2,tk3,k3]
     ·rw[if_pos hwe]at hO
      subst hO
      obtain⟨k1,k2,k3⟩:=fin3 (st:=st) y6 hg6 (err3 we)
      simp only[err3]at k1 k2 k3
      simp[go_sem,hwe,k1,WO.run,fresults,resVals,resVal,RO.run,k2,tk3,err3,k3]
def nextS (s:List UInt8) (i:Int):T3:=
 if 65536<s.length then err3 3
 else if i<0∨(s.length:Int)<i then err3 2
 else let k:=i.toNat+skp false (s.drop i.toNat)
  if k=s.length then((0,0,[]),k,4)else((tokS (s.drop k)).1,k+(tokS (s.drop k)).2.1,(tokS (s.drop k)).2.2)
theorem textK_le (k:Int) (x:List UInt8) (n:Nat):(textK k x n).2.1≤n:=by
 unfold textK
 split
 ·simp[err3]
 ·split
  ·exact Nat.le_refl _
  ·simp[err3]
theorem tokS_le (s:List UInt8):(tokS s).2.1≤s.length:=by
 have he:∀e,(err3 e).2.1≤s.length:=fun e=>Nat.zero_le _
 cases s with
 | nil=>exact Nat.zero_le _
 | cons c R=>
   have hf:∀k l,(fixR k l R).2.1≤R.length+1:=fun k l=>by
    unfold fixR
    split
    ·exact Nat.zero_le _
    ·simp only;omega
   have hcn:∀k l,(cntR4 k l R).2.1≤R.length+1:=fun k l=>by
    unfold cntR4
    split
    ·exact Nat.zero_le _
    ·split
     ·exact Nat.zero_le _
     ·refine Nat.le_trans (textK_le _ _ _) ?_
      rename_i h1 h2
      rw[List.length_drop]at h2
      omega
   have hde:∀(f:Nat) (u:List UInt8×Nat×Int),f+u.2.1≤R.length+1→(decoR f u).2.1≤R.length+1:=fun f u h=>by
    unfold decoR
    split
    ·exact Nat.le_trans (textK_le _ _ _) h
    ·split <;> exact Nat.zero_le _
   unfold tokS
   simp only[List.length_cons]
   split
   ·unfold quotedR
    split
    ·exact Nat.le_trans (textK_le _ _ _) (unquoteT_le _).2
    ·split <;> exact Nat.zero_le _
   split
   ·exact Nat.zero_le _
   split
   ·simp
   split
   ·simp
   split
   ·exact Nat.le_trans (textK_le _ _ _) (by omega)
   split
   ·unfold lessR
    split
    ·refine Nat.le_trans (textK_le _ _ _) ?_
     rename_i h
     cases R with
     | nil=>simp at h
     | cons a r=>simp
    ·split
     ·rename_i h
      refine hde _ _ ?_
      have:=(b85T_le (R.drop 1)).2
      rw[List.length_drop]at this
      cases R with
      | nil=>simp at h
      | cons a r=>simp at this⊢;omega
     ·refine hde _ _ ?_
      have:=(hexT_le R).2
      omega
   split
   ·unfold greaterR
    split
    ·refine Nat.le_trans (textK_le _ _ _) ?_
     rename_i h
     cases R with
     | nil=>simp at h
     | cons a r=>simp
    ·exact Nat.zero_le _
   split
   ·unfold slashR
    split
    ·refine Nat.le_trans (textK_le _ _ _) ?_
     rename_i h
     have:=runN_le isReg (R.drop 1)
     rw[List.length_drop]at this
     cases R with
     | nil=>simp at h
     | cons a r=>simp at this⊢;omega
    ·refine Nat.le_trans (textK_le _ _ _) ?_
     have:=runN_le isReg R
     omega
   split
   ·unfold binR
    (repeat' split) <;> first | exact hf _ _ | exact hcn _ _ | exact Nat.zero_le _
   ·unfold wordK
    split
    ·exact Nat.zero_le _
    ·have:=runN_le isReg (c::R)
     simpa using this
theorem next_tells158 (H:B.H_scan_Next T) (hwf:st.Wf) {s:List UInt8} {i:Int} (hi0: -9223372036854775808≤i) (hi1:i≤9223372036854775807) (hs:s.length<1000000000):Tells T st (.fn 158 [] []) [.str s,.int .i64 i] (tk3 (nextS s i)):=by
 refine tells_of H.e H.f rfl ?_
 have hx:=Ext.new hwf (.cells 134 true [.int .i64 0,.int .i64 0,.str []])
 have hg:=zero_tok st.h st.nx
 obtain⟨O,hO⟩:∃O,O=nextS s i:=⟨_,rfl⟩
 rw[←hO]
 unfold nextS at hO
 by_cases hl:65536<s.length
 ·rw[if_pos hl]at hO
  subst hO
  obtain⟨k1,k2,k3⟩:=fin3 (st:=st) hx hg (err3 3)
  simp only[err3]at k1 k2 k3
  simp[B.scan_Next,go_sem,NO.run,hl,show (65536:Int)<s.length by omega,k1,WO.run,fresults,resVals,resVal,RO.run,k2,tk3,err3,k3]
 ·rw[if_neg hl]at hO
  have hl':¬(65536:Int)<s.length:=by omega
  by_cases hb:i<0∨(s.length:Int)<i
  ·rw[if_pos hb]at hO
   subst hO
   obtain⟨k1,k2,k3⟩:=fin3 (st:=st) hx hg (err3 2)
   simp only[err3]at k1 k2 k3
   by_cases h0:i<0
   ·simp[B.scan_Next,go_sem,NO.run,hl,hl',h0,k1,WO.run,fresults,resVals,resVal,RO.run,k2,tk3,err3,k3]
   ·have h2:(s.length:Int)<i:=by rcases hb with h | h;exact absurd h h0;exact h
    simp[B.scan_Next,go_sem,NO.run,hl,hl',h0,h2,k1,WO.run,fresults,resVals,resVal,RO.run,k2,tk3,err3,k3]
  ·rw[if_neg hb]at hO
   have h0:¬i<0:=fun h=>hb (.inl h)
   have h2:¬(s.length:Int)<i:=fun h=>hb (.inr h)
   obtain⟨j,rfl⟩:=Int.eq_ofNat_of_zero_le (show 0≤i by omega)
   simp only[Int.toNat_natCast]at hO
   have y1:=hx.trans (Ext.new hx.wf (rdrO false s j))
   have x1':=Ext.new hx.wf (rdrO false s j)
   have hg1:hget ((st.nx+1,rdrO false s j)::(st.nx,AObj.cells 134 true [.int .i64 0,.int .i64 0,.str []])::st.h) st.nx=some (.cells 134 true [.int .i64 0,.int .i64 0,.str []]):=by simp[hget_cons]
   have hr1:hget ((st.nx+1,rdrO false s j)::(st.nx,AObj.cells 134 true [.int .i64 0,.int .i64 0,.str []])::st.h) (st.nx+1)=some (rdrO false s j):=by simp[hget_cons]
   simp only[Nat.add_assoc,Nat.reduceAdd]at y1
   have hsk:=skip_res H.scan_reader_skip (st:=⟨(st.nx+1,rdrO false s j)::(st.nx,AObj.cells 134 true [.int .i64 0,.int .i64 0,.str []])::st.h,st.nx+2⟩) (s:=s) (by omega) (i:=j) (by omega) y1.wf hr1
   have hle:=skp_le false (s.drop j)
   rw[List.length_drop]at hle
   generalize hK:j+skp false (s.drop j)=K at*
   simp only[rdrO]at hsk
   simp[B.scan_Next,go_sem,NO.run,hl,hl',h0,h2,Nat.add_assoc]
   refine hsk.mono ?_
   rintro _ s2 ⟨rfl,f2,g2⟩
   have y2:=y1.frm f2 (by simp)
   have hg2:=f2.get y1.wf hg1 (by simp)
   have r1:rdCell s2.h (st.nx+1) 1=some (.int .i64 (K:Int)):=by simp[rdCell,g2]
   by_cases hKe:K=s.length
   ·rw[if_pos hKe]at hO
    subst hO
    have hKe':(K:Int)=s.length:=by omega
    have y3:=y2.trans (Ext.aside y2.wf 10)
    have hg3:hget (⟨s2.h,s2.nx+10⟩:St).h st.nx=some (.cells 134 true [.int .i64 0,.int .i64 0,.str []]):=hg2
    obtain⟨k1,k2,k3⟩:=fin3 (st:=st) y3 hg3 ((0,0,[]),K,4)
    have hne:st.nx≠st.nx+1:=by omega
    have r2:rdCell (hset s2.h st.nx (.cells 134 true [.int .i64 0,.int .i64 0,.str []])) (st.nx+1) 1=some (.int .i64 (K:Int)):=by
     simp only[rdCell]
     rw[hget_hset_ne hg2 hne,g2];rfl
    simp only at k1 k2 k3
    obtain⟨L,hL⟩:∃L:Int,L=(s.length:Int):=⟨_,rfl⟩
    rw[hKe',←hL]at r1 r2
    simp[go_sem,RO.run,r1,←hL]
    simp[go_sem,RO.run,WO.run,r1,reI,r2,k1]
    refine⟨rfl,?_⟩
    have hKL:(K:Int)=L:=by omega
    simp[go_sem,WO.run,fresults,resVals,resVal,RO.run,k2,tk3,k3,hKL]
   ·rw[if_neg hKe]at hO
    have hKe':¬(K:Int)=s.length:=by omega
    have hat:At s2 (st.nx+1) s K:=⟨⟨false,g2⟩,by omega,by omega⟩
    have htk:=token_tells175 H.scan_reader_token y2.wf hat
    have hlt:=tokS_le (s.drop K)
    rw[List.length_drop]at hlt
    generalize tokS (s.drop K)=W at*
    obtain⟨⟨wk,wn,wx⟩,wl,we⟩:=W
    simp only at hO hlt
    simp[go_sem,RO.run,r1,hKe,hKe']
    refine htk.use fun s3 x3=> ?_
    have y3:=y2.trans x3
    have hg3:=x3.get y2.wf hg2
    have hg3r:=x3.get y2.wf g2
    have x4:=Ext.new y3.wf (.cells 134 true [.int .i64 wk,.int .i64 wn,.str wx])
    have y4:=y3.trans x4
    have hg4:=x4.get y3.wf hg3
    have hg4r:=x4.get y3.wf hg3r
    have hz:rdCells ((s3.nx,AObj.cells 134 true [.int .i64 wk,.int .i64 wn,.str wx])::s3.h) s3.nx 0 3=some [.int .i64 wk,.int .i64 wn,.str wx]:=rd_tok _ _ _ _ _ _ _
    have y5:=y4.trans (Ext.aside y4.wf 13)
    simp only[Nat.add_assoc,Nat.reduceAdd]at y5
    have hg5:hget (⟨(s3.nx,AObj.cells 134 true [.int .i64 wk,.int .i64 wn,.str wx])::s3.h,s3.nx+14⟩:St).h st.nx=some (.cells 134 true [.int .i64 0,.int .i64 0,.str []]):=hg4
    obtain⟨k1,k2,k3⟩:=fin3 (st:=st) y5 hg5 O
    have p1:rdCell ((s3.nx,AObj.cells 134 true [.int .i64 wk,.int .i64 wn,.str wx])::s3.h) (st.nx+1) 1=some (.int .i64 (K:Int)):=by simp only[rdCell];rw[hg4r];rfl
    have hne:st.nx≠st.nx+1:=by omega
    have p2:rdCell (hset ((s3.nx,AObj.cells 134 true [.int .i64 wk,.int .i64 wn,.str wx])::s3.h) st.nx (.cells 134 true [.int .i64 wk,.int .i64 wn,.str wx])) (st.nx+1) 1=some (.int .i64 (K:Int)):=by
     simp only[rdCell]
     rw[hget_hset_ne hg4 hne,hg4r];rfl
    obtain⟨z,hzz⟩:∃z:Nat,z=K+wl:=⟨_,rfl⟩
    have ez:IntKind.i64.wrap ((K:Int)+(wl:Int))=(z:Int):=by rw[wrap64' (by omega) (by omega)];omega
    rw[←hzz]at hO
    subst hO
    simp only at k1 k2 k3
    simp[go_sem,tk3,NO.run,WO.run,RO.run,wr_tok,hz,p1,reI,p2,k1]
    refine⟨rfl,?_⟩
    simp[go_sem,ez,WO.run,fresults,resVals,resVal,RO.run,k2,tk3,k3]
end Go.Ev

/- The reference's token. -/
namespace Go.Ev
open Go
set_option linter.unusedSimpArgs false
set_option linter.unusedSectionVars false
set_option linter.unusedVariables false
variable {T : Tab} {st : St}
def okT (t:T3):Prop:=t.2.2=0∨t=err3 t.2.2
theorem okT_err (e:Int):okT (err3 e):= .inr rfl
theorem okT_text (k:Int) (x:List UInt8) (n:Nat):okT (textK k x n):=by
 unfold textK
 split
 ·exact okT_err _
 ·split
  ·exact .inl rfl
  ·exact okT_err _
theorem tokS_ok (s:List UInt8):okT (tokS s):=by
 cases s with
 | nil=>exact okT_err _
 | cons c R=>
   have hf:∀k l,okT (fixR k l R):=fun k l=>by
    unfold fixR
    split
    ·exact okT_err _
    ·exact .inl rfl
   have hcn:∀k l,okT (cntR4 k l R):=fun k l=>by
    unfold cntR4
    split
    ·exact okT_err _
    ·split
     ·exact okT_err _
     ·exact okT_text _ _ _
   have hde:∀(f:Nat) (u:List UInt8×Nat×Int),okT (decoR f u):=fun f u=>by
    unfold decoR
    split
    ·exact okT_text _ _ _
    ·split <;> exact okT_err _
   simp only[tokS]
   split
   ·unfold quotedR
    split
    ·exact okT_text _ _ _
    ·split <;> exact okT_err _
   split
   ·exact okT_err _
   split
   ·exact .inl rfl
   split
   ·exact .inl rfl
   split
   ·exact okT_text _ _ _
   split
   ·unfold lessR
    split
    ·exact okT_text _ _ _
    ·split <;> exact hde _ _
   split
   ·unfold greaterR
    split
    ·exact okT_text _ _ _
    ·exact okT_err _
   split
   ·unfold slashR
    split <;> exact okT_text _ _ _
   split
   ·unfold binR
    (repeat' split) <;> first | exact hf _ _ | exact hcn _ _ | exact okT_err _
   ·unfold wordK
    split
    ·exact okT_err _
    ·exact .inl rfl
def twoC (R:List UInt8):UInt8:=match R with
 | []=>0
 | d::_=>d
theorem two_head (R:List UInt8) (k:UInt8) (hk:k≠0):(R.head? =some k)↔twoC R=k:=by
 cases R with
 | nil=>simp[twoC];exact fun h=>hk h.symm
 | cons d r=>simp[twoC]
set_option maxHeartbeats 2000000 in
theorem rt40 (H:B.H_chaseref04_token T) {s3:St} (hx:Ext st s3) (hg:hget s3.h st.nx=some (.cells 134 true [.int .i64 0,.int .i64 0,.str []])) {i:Nat} {s:List UInt8} (hs:s.length≤65536) (hi:i<s.length) {c:UInt8} (hc:s[i]? =some c) {R:List UInt8} (hR:R=s.drop (i+1)) (hRl:R.length=s.length - (i+1)) (hd:s.drop i=c::R) {O:T3} (hO:O=shift i (tokS (c::R)))
  {e3:Env} (g0:eget e3 0= .str s) (g1:eget e3 1= .int .i64 (i:Int)) (g4:eget e3 4= .ptr st.nx 0) {D C:Int} (g7:eget e3 7= .int .u8 D) (t60:R.head? =some 60↔D=60) (t62:R.head? =some 62↔D=62) (t126:R.head? =some 126↔D=126) (t47:R.head? =some 47↔D=47) (hC:C=(c.toNat:Int)) (hcn:∀n:UInt8,c=n↔C=n.toNat) (h40:c=40):
  Res (run T B.chaseref04_token.body.b.b.b e3 s3) fun x e s=>(x= .norm∨x= .ret)∧fresults s.h e B.chaseref04_token.results=some (tk3 O)∧Ext st s:=by
 simp only[B.chaseref04_token,ab_seq]
 have e0:c.toNat=C.toNat:=by omega
 have stop:∀(s5:St) (t:T3),Ext s3 s5→O=t→wrCells s5.h st.nx 0 [.int .i64 t.1.1,.int .i64 t.1.2.1,.str t.1.2.2]=some (hset s5.h st.nx (.cells 134 true [.int .i64 t.1.1,.int .i64 t.1.2.1,.str t.1.2.2]))∧
   rdCells (hset s5.h st.nx (.cells 134 true [.int .i64 t.1.1,.int .i64 t.1.2.1,.str t.1.2.2])) st.nx 0 3=some [.int .i64 t.1.1,.int .i64 t.1.2.1,.str t.1.2.2]∧Ext st ⟨hset s5.h st.nx (.cells 134 true [.int .i64 t.1.1,.int .i64 t.1.2.1,.str t.1.2.2]),s5.nx⟩:=fun s5 t x5 _=>
  fin3 (hx.trans x5) (x5.get hx.wf hg) t
 have hres:B.chaseref04_token.results=[.cell 4 (some 3),.t 5,.t 6]:=rfl
 have hsub0:asubS s (some (.int .i64 (i:Int))) none=some (.str (s.drop i)):=by rw[asubS_from (by omega) (by omega)];simp
 obtain⟨w1,hw1⟩:∃w:Nat,w=i+1:=⟨_,rfl⟩
 obtain⟨w2,hw2⟩:∃w:Nat,w=i+2:=⟨_,rfl⟩
 have ek1:IntKind.i64.wrap ((i:Int)+1)=(w1:Int):=by rw[wrap64' (by omega) (by omega)];omega
 have ek2:IntKind.i64.wrap ((i:Int)+2)=(w2:Int):=by rw[wrap64' (by omega) (by omega)];omega
 have hsub1:asubS s (some (.int .i64 (w1:Int))) none=some (.str R):=by rw[asubS_from (by omega) (by omega),hR,show (w1:Int).toNat=i+1 by omega]
 have hsubc:asubS s (some (.int .i64 (i:Int))) (some (.int .i64 (w1:Int)))=some (.str [c]):=by
  rw[asubS_some (by omega) (by omega) (by omega),show (i:Int).toNat=i by omega,show (w1:Int).toNat - i=1 by omega,hd];rfl
 have hnm:=fun(k:Int) (x:List UInt8) (n:Nat) (h:x.length<1000000000000)=>refNamed_tells (st:=s3) H.chaseref04_named hx.wf (k:=k) (x:=x) (n:=n) h
 have hC40:C=40:=(hcn 40).1 h40
 rw[tokS,if_pos h40,←hd]at hO
 unfold quotedR at hO
 have hle:=unquoteT_le (s.drop i)
 rw[List.length_drop]at hle
 have hun:=fun(st':St) (hw:st'.Wf)=>refUnquote_tells (st:=st') H.chaseref03_Unquote hw (s:=s.drop i) (by simp;omega)
 have hue:(unquoteT (s.drop i)).2.2=0∨(unquoteT (s.drop i)).2.2=26∨(unquoteT (s.drop i)).2.2=5:=by
  unfold unquoteT
  split
  ·split
   ·split
    ·simp
    ·split <;> simp
   ·simp
  ·simp
 generalize unquoteT (s.drop i)=u at*
 obtain⟨x,n,e⟩:=u
 simp only at hO hle hue
 simp[go_sem,g0,g1,g4,g7,hc,←hC,hC40,hsub0]
 refine(hun _ hx.wf).use fun s5 x5=> ?_
 rcases hue with rfl | rfl | rfl
 ·rw[if_pos rfl,shift_text]at hO
  obtain⟨z,hz⟩:∃z:Nat,z=i+n:=⟨_,rfl⟩
  have ez:IntKind.i64.wrap ((i:Int)+(n:Int))=(z:Int):=by rw[wrap64' (by omega) (by omega)];omega
  rw[←hz]at hO
  simp[go_sem,toU,ez]
  refine(refNamed_tells H.chaseref04_named (hx.trans x5).wf (k:=6) (x:=x) (n:=z) (by omega)).use fun s6 x6=> ?_
  obtain⟨k1,k2,k3⟩:=stop s6 _ (x5.trans x6) hO
  rw[hO]
  simp[go_sem,k1,WO.run,fresults,resVals,resVal,RO.run,k2,tk3,k3,hres]
 ·rw[if_neg (by decide),if_pos rfl,shift_err _ _ (by decide)]at hO
  obtain⟨k1,k2,k3⟩:=stop s5 _ x5 hO
  simp only[err3]at k1 k2 k3
  rw[hO]
  simp[go_sem,toU,k1,WO.run,fresults,resVals,resVal,RO.run,k2,tk3,err3,k3,hres]
 ·rw[if_neg (by decide),if_neg (by decide),shift_err _ _ (by decide)]at hO
  obtain⟨k1,k2,k3⟩:=stop s5 _ x5 hO
  simp only[err3]at k1 k2 k3
  rw[hO]
  simp[go_sem,toU,k1,WO.run,fresults,resVals,resVal,RO.run,k2,tk3,err3,k3,hres]
set_option maxHeartbeats 2000000 in
theorem rtSmall (H:B.H_chaseref04_token T) {s3:St} (hx:Ext st s3) (hg:hget s3.h st.nx=some (.cells 134 true [.int .i64 0,.int .i64 0,.str []])) {i:Nat} {s:List UInt8} (hs:s.length≤65536) (hi:i<s.length) {c:UInt8} (hc:s[i]? =some c) {R:List UInt8} (hR:R=s.drop (i+1)) (hRl:R.length=s.length - (i+1)) (hd:s.drop i=c::R) {O:T3} (hO:O=shift i (if c=41 then err3 37 else if c=123 then((7,0,[]),1,0)else if c=125 then((8,0,[]),1,0)else if c=91∨c=93 then textK 3 [c] 1 else err3 37))
  {e3:Env} (g0:eget e3 0= .str s) (g1:eget e3 1= .int .i64 (i:Int)) (g4:eget e3 4= .ptr st.nx 0) {D C:Int} (g7:eget e3 7= .int .u8 D) (t60:R.head? =some 60↔D=60) (t62:R.head? =some 62↔D=62) (t126:R.head? =some 126↔D=126) (t47:R.head? =some 47↔D=47) (hC:C=(c.toNat:Int)) (hcn:∀n:UInt8,c=n↔C=n.toNat) (h40:¬c=40) (hsm:c=41∨c=123∨c=125∨c=91∨c=93):
  Res (run T B.chaseref04_token.body.b.b.b e3 s3) fun x e s=>(x= .norm∨x= .ret)∧fresults s.h e B.chaseref04_token.results=some (tk3 O)∧Ext st s:=by
 simp only[B.chaseref04_token,ab_seq]
 have e0:c.toNat=C.toNat:=by omega
 have stop:∀(s5:St) (t:T3),Ext s3 s5→O=t→wrCells s5.h st.nx 0 [.int .i64 t.1.1,.int .i64 t.1.2.1,.str t.1.2.2]=some (hset s5.h st.nx (.cells 134 true [.int .i64 t.1.1,.int .i64 t.1.2.1,.str t.1.2.2]))∧
   rdCells (hset s5.h st.nx (.cells 134 true [.int .i64 t.1.1,.int .i64 t.1.2.1,.str t.1.2.2])) st.nx 0 3=some [.int .i64 t.1.1,.int .i64 t.1.2.1,.str t.1.2.2]∧Ext st ⟨hset s5.h st.nx (.cells 134 true [.int .i64 t.1.1,.int .i64 t.1.2.1,.str t.1.2.2]),s5.nx⟩:=fun s5 t x5 _=>
  fin3 (hx.trans x5) (x5.get hx.wf hg) t
 have hres:B.chaseref04_token.results=[.cell 4 (some 3),.t 5,.t 6]:=rfl
 have hsub0:asubS s (some (.int .i64 (i:Int))) none=some (.str (s.drop i)):=by rw[asubS_from (by omega) (by omega)];simp
 obtain⟨w1,hw1⟩:∃w:Nat,w=i+1:=⟨_,rfl⟩
 obtain⟨w2,hw2⟩:∃w:Nat,w=i+2:=⟨_,rfl⟩
 have ek1:IntKind.i64.wrap ((i:Int)+1)=(w1:Int):=by rw[wrap64' (by omega) (by omega)];omega
 have ek2:IntKind.i64.wrap ((i:Int)+2)=(w2:Int):=by rw[wrap64' (by omega) (by omega)];omega
 have hsub1:asubS s (some (.int .i64 (w1:Int))) none=some (.str R):=by rw[asubS_from (by omega) (by omega),hR,show (w1:Int).toNat=i+1 by omega]
 have hsubc:asubS s (some (.int .i64 (i:Int))) (some (.int .i64 (w1:Int)))=some (.str [c]):=by
  rw[asubS_some (by omega) (by omega) (by omega),show (i:Int).toNat=i by omega,show (w1:Int).toNat - i=1 by omega,hd];rfl
 have hnm:=fun(k:Int) (x:List UInt8) (n:Nat) (h:x.length<1000000000000)=>refNamed_tells (st:=s3) H.chaseref04_named hx.wf (k:=k) (x:=x) (n:=n) h
 have n40:¬C=40:=fun h=>h40 ((hcn 40).2 h)
 by_cases h123:c=123
 ·have hCC:C=123:=(hcn 123).1 h123
  rw[if_neg (by rw[h123];decide),if_pos h123]at hO
  have hO2:O=((7,0,[]),w1,0):=by rw[hO,hw1];rfl
  obtain⟨k1,k2,k3⟩:=stop s3 _ (.refl hx.wf) hO2
  simp only at k1 k2 k3
  rw[hO2]
  simp[go_sem,g0,g1,g4,g7,hc,←hC,hCC,ek1,k1,WO.run,fresults,resVals,resVal,RO.run,k2,tk3,k3,hres]
 have n123:¬C=123:=fun h=>h123 ((hcn 123).2 h)
 by_cases h125:c=125
 ·have hCC:C=125:=(hcn 125).1 h125
  rw[if_neg (by rw[h125];decide),if_neg h123,if_pos h125]at hO
  have hO2:O=((8,0,[]),w1,0):=by rw[hO,hw1];rfl
  obtain⟨k1,k2,k3⟩:=stop s3 _ (.refl hx.wf) hO2
  simp only at k1 k2 k3
  rw[hO2]
  simp[go_sem,g0,g1,g4,g7,hc,←hC,hCC,ek1,k1,WO.run,fresults,resVals,resVal,RO.run,k2,tk3,k3,hres]
 have n125:¬C=125:=fun h=>h125 ((hcn 125).2 h)
 by_cases h9:c=91∨c=93
 ·have hCC:C=91∨C=93:=h9.imp (hcn 91).1 (hcn 93).1
  rw[if_neg (by rcases h9 with h | h <;> rw[h] <;> decide),if_neg h123,if_neg h125,if_pos h9,shift_text,←hw1]at hO
  have hn1:=hnm 3 [c] w1 (by simp)
  rw[←hO]at hn1
  rcases hCC with hCC | hCC
  ·simp[go_sem,g0,g1,g4,g7,hc,←hC,hCC,ek1,hsubc]
   refine hn1.use fun s5 x5=> ?_
   obtain⟨k1,k2,k3⟩:=stop s5 O x5 rfl
   simp[go_sem,k1,WO.run,fresults,resVals,resVal,RO.run,k2,tk3,k3,hres]
  ·simp[go_sem,g0,g1,g4,g7,hc,←hC,hCC,ek1,hsubc]
   refine hn1.use fun s5 x5=> ?_
   obtain⟨k1,k2,k3⟩:=stop s5 O x5 rfl
   simp[go_sem,k1,WO.run,fresults,resVals,resVal,RO.run,k2,tk3,k3,hres]
 have n91:¬C=91:=fun h=>h9 (.inl ((hcn 91).2 h))
 have n93:¬C=93:=fun h=>h9 (.inr ((hcn 93).2 h))
 by_cases h41:c=41
 ·have hCC:C=41:=(hcn 41).1 h41
  rw[if_pos h41,shift_err _ _ (by decide)]at hO
  obtain⟨k1,k2,k3⟩:=stop s3 _ (.refl hx.wf) hO
  simp only[err3]at k1 k2 k3
  rw[hO]
  simp[go_sem,g0,g1,g4,g7,hc,←hC,hCC,k1,WO.run,fresults,resVals,resVal,RO.run,k2,tk3,err3,k3,hres]
 have n41:¬C=41:=fun h=>h41 ((hcn 41).2 h)
 exfalso
 rcases hsm with h | h | h | h
 ·exact h41 h
 ·exact h123 h
 ·exact h125 h
 ·exact h9 h
set_option maxHeartbeats 2000000 in
theorem rt60 (H:B.H_chaseref04_token T) {s3:St} (hx:Ext st s3) (hg:hget s3.h st.nx=some (.cells 134 true [.int .i64 0,.int .i64 0,.str []])) {i:Nat} {s:List UInt8} (hs:s.length≤65536) (hi:i<s.length) {c:UInt8} (hc:s[i]? =some c) {R:List UInt8} (hR:R=s.drop (i+1)) (hRl:R.length=s.length - (i+1)) (hd:s.drop i=c::R) {O:T3} (hO:O=shift i (lessR R))
  {e3:Env} (g0:eget e3 0= .str s) (g1:eget e3 1= .int .i64 (i:Int)) (g4:eget e3 4= .ptr st.nx 0) {D C:Int} (g7:eget e3 7= .int .u8 D) (t60:R.head? =some 60↔D=60) (t62:R.head? =some 62↔D=62) (t126:R.head? =some 126↔D=126) (t47:R.head? =some 47↔D=47) (hC:C=(c.toNat:Int)) (hcn:∀n:UInt8,c=n↔C=n.toNat) (n40:¬C=40) (n123:¬C=123) (n125:¬C=125) (n91:¬C=91) (n93:¬C=93) (n41:¬C=41) (h60:c=60):
  Res (run T B.chaseref04_token.body.b.b.b e3 s3) fun x e s=>(x= .norm∨x= .ret)∧fresults s.h e B.chaseref04_token.results=some (tk3 O)∧Ext st s:=by
 simp only[B.chaseref04_token,ab_seq]
 have e0:c.toNat=C.toNat:=by omega
 have stop:∀(s5:St) (t:T3),Ext s3 s5→O=t→wrCells s5.h st.nx 0 [.int .i64 t.1.1,.int .i64 t.1.2.1,.str t.1.2.2]=some (hset s5.h st.nx (.cells 134 true [.int .i64 t.1.1,.int .i64 t.1.2.1,.str t.1.2.2]))∧
   rdCells (hset s5.h st.nx (.cells 134 true [.int .i64 t.1.1,.int .i64 t.1.2.1,.str t.1.2.2])) st.nx 0 3=some [.int .i64 t.1.1,.int .i64 t.1.2.1,.str t.1.2.2]∧Ext st ⟨hset s5.h st.nx (.cells 134 true [.int .i64 t.1.1,.int .i64 t.1.2.1,.str t.1.2.2]),s5.nx⟩:=fun s5 t x5 _=>
  fin3 (hx.trans x5) (x5.get hx.wf hg) t
 have hres:B.chaseref04_token.results=[.cell 4 (some 3),.t 5,.t 6]:=rfl
 have hsub0:asubS s (some (.int .i64 (i:Int))) none=some (.str (s.drop i)):=by rw[asubS_from (by omega) (by omega)];simp
 obtain⟨w1,hw1⟩:∃w:Nat,w=i+1:=⟨_,rfl⟩
 obtain⟨w2,hw2⟩:∃w:Nat,w=i+2:=⟨_,rfl⟩
 have ek1:IntKind.i64.wrap ((i:Int)+1)=(w1:Int):=by rw[wrap64' (by omega) (by omega)];omega
 have ek2:IntKind.i64.wrap ((i:Int)+2)=(w2:Int):=by rw[wrap64' (by omega) (by omega)];omega
 have hsub1:asubS s (some (.int .i64 (w1:Int))) none=some (.str R):=by rw[asubS_from (by omega) (by omega),hR,show (w1:Int).toNat=i+1 by omega]
 have hsubc:asubS s (some (.int .i64 (i:Int))) (some (.int .i64 (w1:Int)))=some (.str [c]):=by
  rw[asubS_some (by omega) (by omega) (by omega),show (i:Int).toNat=i by omega,show (w1:Int).toNat - i=1 by omega,hd];rfl
 have hnm:=fun(k:Int) (x:List UInt8) (n:Nat) (h:x.length<1000000000000)=>refNamed_tells (st:=s3) H.chaseref04_named hx.wf (k:=k) (x:=x) (n:=n) h
 have hpair:∀k:UInt8,c=k→(R.head? =some k)→w2≤s.length∧asubS s (some (.int .i64 (i:Int))) (some (.int .i64 (w2:Int)))=some (.str [k,k]):=by
  intro k h1 h2
  cases hRR:R with
  | nil=>rw[hRR]at h2;simp at h2
  | cons d r=>
    rw[hRR]at h2 hRl hd
    simp at h2 hRl
    refine⟨by omega,?_⟩
    rw[asubS_some (by omega) (by omega) (by omega),show (i:Int).toNat=i by omega,show (w2:Int).toNat - i=2 by omega,hd,h1,h2];rfl
 have hdrop1:∀k:UInt8,R.head? =some k→asubS s (some (.int .i64 (w2:Int))) none=some (.str (R.drop 1)):=by
  intro k h2
  cases hRR:R with
  | nil=>rw[hRR]at h2;simp at h2
  | cons d r=>
    rw[hRR]at hRl
    simp at hRl
    rw[←hRR,asubS_from (by omega) (by omega),hR,List.drop_drop,show (w2:Int).toNat=i+1+1 by omega]
 have hCC:C=60:=(hcn 60).1 h60
 unfold lessR at hO
 by_cases hh60:R.head? =some 60
 ·have hDD:D=60:=t60.1 hh60
  obtain⟨hl2,hs2⟩:=hpair 60 h60 hh60
  rw[if_pos hh60,shift_text,←hw2]at hO
  have hn1:=hnm 3 [60,60] w2 (by simp)
  rw[←hO]at hn1
  simp[go_sem,g0,g1,g4,g7,hc,←hC,hCC,hDD,ek2,hs2]
  refine hn1.use fun s5 x5=> ?_
  obtain⟨k1,k2,k3⟩:=stop s5 O x5 rfl
  simp[go_sem,k1,WO.run,fresults,resVals,resVal,RO.run,k2,tk3,k3,hres]
 rw[if_neg hh60]at hO
 have nD60:¬D=60:=fun h=>hh60 (t60.2 h)
 by_cases hh126:R.head? =some 126
 ·have hDD:D=126:=t126.1 hh126
  have hs2:=hdrop1 126 hh126
  rw[if_pos hh126]at hO
  unfold decoR at hO
  have hle:=b85T_le (R.drop 1)
  have hue:(b85T (R.drop 1)).2.2=0∨(b85T (R.drop 1)).2.2=3∨(b85T (R.drop 1)).2.2=5:=by
   unfold b85T readT
   split
   ·simp
   ·split
    ·simp
    ·split <;> simp
  have hdl:(R.drop 1).length≤s.length:=by rw[List.length_drop];omega
  have hcall:=refUnbase85_tells H.chaseref02_Unbase85 hx.wf (s:=R.drop 1) (by omega)
  generalize b85T (R.drop 1)=u at*
  generalize R.drop 1=DD at*
  obtain⟨x,n,e⟩:=u
  simp only at hO hle hue
  simp[go_sem,g0,g1,g4,g7,hc,←hC,hCC,hDD,ek2,hs2]
  refine hcall.use fun s5 x5=> ?_
  rcases hue with rfl | rfl | rfl
  ·rw[if_pos rfl,shift_text]at hO
   obtain⟨z,hz⟩:∃z:Nat,z=i+(2+n):=⟨_,rfl⟩
   have ez:IntKind.i64.wrap ((w2:Int)+(n:Int))=(z:Int):=by rw[wrap64' (by omega) (by omega)];omega
   rw[←hz]at hO
   simp[go_sem,toU,ek2,ez]
   refine(refNamed_tells H.chaseref04_named (hx.trans x5).wf (k:=6) (x:=x) (n:=z) (by omega)).use fun s6 x6=> ?_
   obtain⟨k1,k2,k3⟩:=stop s6 _ (x5.trans x6) hO
   rw[hO]
   simp[go_sem,k1,WO.run,fresults,resVals,resVal,RO.run,k2,tk3,k3,hres]
  ·rw[if_neg (by decide),if_pos rfl,shift_err _ _ (by decide)]at hO
   obtain⟨k1,k2,k3⟩:=stop s5 _ x5 hO
   simp only[err3]at k1 k2 k3
   rw[hO]
   simp[go_sem,toU,k1,WO.run,fresults,resVals,resVal,RO.run,k2,tk3,err3,k3,hres]
  ·rw[if_neg (by decide),if_neg (by decide),shift_err _ _ (by decide)]at hO
   obtain⟨k1,k2,k3⟩:=stop s5 _ x5 hO
   simp only[err3]at k1 k2 k3
   rw[hO]
   simp[go_sem,toU,k1,WO.run,fresults,resVals,resVal,RO.run,k2,tk3,err3,k3,hres]
 ·have nD126:¬D=126:=fun h=>hh126 (t126.2 h)
  rw[if_neg hh126]at hO
  unfold decoR at hO
  have hle:=hexT_le R
  have hue:(hexT R).2.2=0∨(hexT R).2.2=5:=by
   have hRs:¬65536<R.length:=by omega
   unfold hexT
   rw[if_neg hRs]
   split <;> simp
  have hcall:=refUnhex_tells H.chaseref02_Unhex hx.wf (s:=R) (by omega)
  generalize hexT R=u at*
  obtain⟨x,n,e⟩:=u
  simp only at hO hle hue
  simp[go_sem,g0,g1,g4,g7,hc,←hC,hCC,nD60,nD126,ek1,hsub1]
  refine hcall.use fun s5 x5=> ?_
  rcases hue with rfl | rfl
  ·rw[if_pos rfl,shift_text]at hO
   obtain⟨z,hz⟩:∃z:Nat,z=i+(1+n):=⟨_,rfl⟩
   have ez:IntKind.i64.wrap ((w1:Int)+(n:Int))=(z:Int):=by rw[wrap64' (by omega) (by omega)];omega
   rw[←hz]at hO
   simp[go_sem,toU,ek1,ez]
   refine(refNamed_tells H.chaseref04_named (hx.trans x5).wf (k:=6) (x:=x) (n:=z) (by omega)).use fun s6 x6=> ?_
   obtain⟨k1,k2,k3⟩:=stop s6 _ (x5.trans x6) hO
   rw[hO]
   simp[go_sem,k1,WO.run,fresults,resVals,resVal,RO.run,k2,tk3,k3,hres]
  ·rw[if_neg (by decide),if_neg (by decide),shift_err _ _ (by decide)]at hO
   obtain⟨k1,k2,k3⟩:=stop s5 _ x5 hO
   simp only[err3]at k1 k2 k3
   rw[hO]
   simp[go_sem,toU,k1,WO.run,fresults,resVals,resVal,RO.run,k2,tk3,err3,k3,hres]
set_option maxHeartbeats 2000000 in
theorem rt62 (H:B.H_chaseref04_token T) {s3:St} (hx:Ext st s3) (hg:hget s3.h st.nx=some (.cells 134 true [.int .i64 0,.int .i64 0,.str []])) {i:Nat} {s:List UInt8} (hs:s.length≤65536) (hi:i<s.length) {c:UInt8} (hc:s[i]? =some c) {R:List UInt8} (hR:R=s.drop (i+1)) (hRl:R.length=s.length - (i+1)) (hd:s.drop i=c::R) {O:T3} (hO:O=shift i (greaterR R))
  {e3:Env} (g0:eget e3 0= .str s) (g1:eget e3 1= .int .i64 (i:Int)) (g4:eget e3 4= .ptr st.nx 0) {D C:Int} (g7:eget e3 7= .int .u8 D) (t60:R.head? =some 60↔D=60) (t62:R.head? =some 62↔D=62) (t126:R.head? =some 126↔D=126) (t47:R.head? =some 47↔D=47) (hC:C=(c.toNat:Int)) (hcn:∀n:UInt8,c=n↔C=n.toNat) (n40:¬C=40) (n123:¬C=123) (n125:¬C=125) (n91:¬C=91) (n93:¬C=93) (n41:¬C=41) (n60:¬C=60) (h62:c=62):
  Res (run T B.chaseref04_token.body.b.b.b e3 s3) fun x e s=>(x= .norm∨x= .ret)∧fresults s.h e B.chaseref04_token.results=some (tk3 O)∧Ext st s:=by
 simp only[B.chaseref04_token,ab_seq]
 have e0:c.toNat=C.toNat:=by omega
 have stop:∀(s5:St) (t:T3),Ext s3 s5→O=t→wrCells s5.h st.nx 0 [.int .i64 t.1.1,.int .i64 t.1.2.1,.str t.1.2.2]=some (hset s5.h st.nx (.cells 134 true [.int .i64 t.1.1,.int .i64 t.1.2.1,.str t.1.2.2]))∧
   rdCells (hset s5.h st.nx (.cells 134 true [.int .i64 t.1.1,.int .i64 t.1.2.1,.str t.1.2.2])) st.nx 0 3=some [.int .i64 t.1.1,.int .i64 t.1.2.1,.str t.1.2.2]∧Ext st ⟨hset s5.h st.nx (.cells 134 true [.int .i64 t.1.1,.int .i64 t.1.2.1,.str t.1.2.2]),s5.nx⟩:=fun s5 t x5 _=>
  fin3 (hx.trans x5) (x5.get hx.wf hg) t
 have hres:B.chaseref04_token.results=[.cell 4 (some 3),.t 5,.t 6]:=rfl
 have hsub0:asubS s (some (.int .i64 (i:Int))) none=some (.str (s.drop i)):=by rw[asubS_from (by omega) (by omega)];simp
 obtain⟨w1,hw1⟩:∃w:Nat,w=i+1:=⟨_,rfl⟩
 obtain⟨w2,hw2⟩:∃w:Nat,w=i+2:=⟨_,rfl⟩
 have ek1:IntKind.i64.wrap ((i:Int)+1)=(w1:Int):=by rw[wrap64' (by omega) (by omega)];omega
 have ek2:IntKind.i64.wrap ((i:Int)+2)=(w2:Int):=by rw[wrap64' (by omega) (by omega)];omega
 have hsub1:asubS s (some (.int .i64 (w1:Int))) none=some (.str R):=by rw[asubS_from (by omega) (by omega),hR,show (w1:Int).toNat=i+1 by omega]
 have hsubc:asubS s (some (.int .i64 (i:Int))) (some (.int .i64 (w1:Int)))=some (.str [c]):=by
  rw[asubS_some (by omega) (by omega) (by omega),show (i:Int).toNat=i by omega,show (w1:Int).toNat - i=1 by omega,hd];rfl
 have hnm:=fun(k:Int) (x:List UInt8) (n:Nat) (h:x.length<1000000000000)=>refNamed_tells (st:=s3) H.chaseref04_named hx.wf (k:=k) (x:=x) (n:=n) h
 have hpair:∀k:UInt8,c=k→(R.head? =some k)→w2≤s.length∧asubS s (some (.int .i64 (i:Int))) (some (.int .i64 (w2:Int)))=some (.str [k,k]):=by
  intro k h1 h2
  cases hRR:R with
  | nil=>rw[hRR]at h2;simp at h2
  | cons d r=>
    rw[hRR]at h2 hRl hd
    simp at h2 hRl
    refine⟨by omega,?_⟩
    rw[asubS_some (by omega) (by omega) (by omega),show (i:Int).toNat=i by omega,show (w2:Int).toNat - i=2 by omega,hd,h1,h2];rfl
 have hdrop1:∀k:UInt8,R.head? =some k→asubS s (some (.int .i64 (w2:Int))) none=some (.str (R.drop 1)):=by
  intro k h2
  cases hRR:R with
  | nil=>rw[hRR]at h2;simp at h2
  | cons d r=>
    rw[hRR]at hRl
    simp at hRl
    rw[←hRR,asubS_from (by omega) (by omega),hR,List.drop_drop,show (w2:Int).toNat=i+1+1 by omega]
 have hCC:C=62:=(hcn 62).1 h62
 unfold greaterR at hO
 by_cases hh62:R.head? =some 62
 ·have hDD:D=62:=t62.1 hh62
  obtain⟨hl2,hs2⟩:=hpair 62 h62 hh62
  rw[if_pos hh62,shift_text,←hw2]at hO
  have hn1:=hnm 3 [62,62] w2 (by simp)
  rw[←hO]at hn1
  simp[go_sem,g0,g1,g4,g7,hc,←hC,hCC,hDD,ek2,hs2]
  refine hn1.use fun s5 x5=> ?_
  obtain⟨k1,k2,k3⟩:=stop s5 O x5 rfl
  simp[go_sem,k1,WO.run,fresults,resVals,resVal,RO.run,k2,tk3,k3,hres]
 ·have nD62:¬D=62:=fun h=>hh62 (t62.2 h)
  rw[if_neg hh62,shift_err _ _ (by decide)]at hO
  obtain⟨k1,k2,k3⟩:=stop s3 _ (.refl hx.wf) hO
  simp only[err3]at k1 k2 k3
  rw[hO]
  simp[go_sem,g0,g1,g4,g7,hc,←hC,hCC,nD62,k1,WO.run,fresults,resVals,resVal,RO.run,k2,tk3,err3,k3,hres]
set_option maxHeartbeats 2000000 in
theorem rt47 (H:B.H_chaseref04_token T) {s3:St} (hx:Ext st s3) (hg:hget s3.h st.nx=some (.cells 134 true [.int .i64 0,.int .i64 0,.str []])) {i:Nat} {s:List UInt8} (hs:s.length≤65536) (hi:i<s.length) {c:UInt8} (hc:s[i]? =some c) {R:List UInt8} (hR:R=s.drop (i+1)) (hRl:R.length=s.length - (i+1)) (hd:s.drop i=c::R) {O:T3} (hO:O=shift i (slashR R))
  {e3:Env} (g0:eget e3 0= .str s) (g1:eget e3 1= .int .i64 (i:Int)) (g4:eget e3 4= .ptr st.nx 0) {D C:Int} (g7:eget e3 7= .int .u8 D) (t60:R.head? =some 60↔D=60) (t62:R.head? =some 62↔D=62) (t126:R.head? =some 126↔D=126) (t47:R.head? =some 47↔D=47) (hC:C=(c.toNat:Int)) (hcn:∀n:UInt8,c=n↔C=n.toNat) (n40:¬C=40) (n123:¬C=123) (n125:¬C=125) (n91:¬C=91) (n93:¬C=93) (n41:¬C=41) (n60:¬C=60) (n62:¬C=62) (h47:c=47):
  Res (run T B.chaseref04_token.body.b.b.b e3 s3) fun x e s=>(x= .norm∨x= .ret)∧fresults s.h e B.chaseref04_token.results=some (tk3 O)∧Ext st s:=by
 simp only[B.chaseref04_token,ab_seq]
 have e0:c.toNat=C.toNat:=by omega
 have stop:∀(s5:St) (t:T3),Ext s3 s5→O=t→wrCells s5.h st.nx 0 [.int .i64 t.1.1,.int .i64 t.1.2.1,.str t.1.2.2]=some (hset s5.h st.nx (.cells 134 true [.int .i64 t.1.1,.int .i64 t.1.2.1,.str t.1.2.2]))∧
   rdCells (hset s5.h st.nx (.cells 134 true [.int .i64 t.1.1,.int .i64 t.1.2.1,.str t.1.2.2])) st.nx 0 3=some [.int .i64 t.1.1,.int .i64 t.1.2.1,.str t.1.2.2]∧Ext st ⟨hset s5.h st.nx (.cells 134 true [.int .i64 t.1.1,.int .i64 t.1.2.1,.str t.1.2.2]),s5.nx⟩:=fun s5 t x5 _=>
  fin3 (hx.trans x5) (x5.get hx.wf hg) t
 have hres:B.chaseref04_token.results=[.cell 4 (some 3),.t 5,.t 6]:=rfl
 have hsub0:asubS s (some (.int .i64 (i:Int))) none=some (.str (s.drop i)):=by rw[asubS_from (by omega) (by omega)];simp
 obtain⟨w1,hw1⟩:∃w:Nat,w=i+1:=⟨_,rfl⟩
 obtain⟨w2,hw2⟩:∃w:Nat,w=i+2:=⟨_,rfl⟩
 have ek1:IntKind.i64.wrap ((i:Int)+1)=(w1:Int):=by rw[wrap64' (by omega) (by omega)];omega
 have ek2:IntKind.i64.wrap ((i:Int)+2)=(w2:Int):=by rw[wrap64' (by omega) (by omega)];omega
 have hsub1:asubS s (some (.int .i64 (w1:Int))) none=some (.str R):=by rw[asubS_from (by omega) (by omega),hR,show (w1:Int).toNat=i+1 by omega]
 have hsubc:asubS s (some (.int .i64 (i:Int))) (some (.int .i64 (w1:Int)))=some (.str [c]):=by
  rw[asubS_some (by omega) (by omega) (by omega),show (i:Int).toNat=i by omega,show (w1:Int).toNat - i=1 by omega,hd];rfl
 have hnm:=fun(k:Int) (x:List UInt8) (n:Nat) (h:x.length<1000000000000)=>refNamed_tells (st:=s3) H.chaseref04_named hx.wf (k:=k) (x:=x) (n:=n) h
 have hpair:∀k:UInt8,c=k→(R.head? =some k)→w2≤s.length∧asubS s (some (.int .i64 (i:Int))) (some (.int .i64 (w2:Int)))=some (.str [k,k]):=by
  intro k h1 h2
  cases hRR:R with
  | nil=>rw[hRR]at h2;simp at h2
  | cons d r=>
    rw[hRR]at h2 hRl hd
    simp at h2 hRl
    refine⟨by omega,?_⟩
    rw[asubS_some (by omega) (by omega) (by omega),show (i:Int).toNat=i by omega,show (w2:Int).toNat - i=2 by omega,hd,h1,h2];rfl
 have hdrop1:∀k:UInt8,R.head? =some k→asubS s (some (.int .i64 (w2:Int))) none=some (.str (R.drop 1)):=by
  intro k h2
  cases hRR:R with
  | nil=>rw[hRR]at h2;simp at h2
  | cons d r=>
    rw[hRR]at hRl
    simp at hRl
    rw[←hRR,asubS_from (by omega) (by omega),hR,List.drop_drop,show (w2:Int).toNat=i+1+1 by omega]
 have haft:=fun(st':St) (hw:st'.Wf) (f:Nat) (h:i+f≤s.length)=>after_tells (st:=st') H.chaseref04_after hw (s:=s) (i:=i+f) h (by omega)
 have hCC:C=47:=(hcn 47).1 h47
 unfold slashR at hO
 have hsl:∀(f:Nat) (k:Int) (E:List UInt8),i+f≤s.length→E=s.drop (i+f)→O=textK k (E.take (runN isReg E)) (i+(f+runN isReg E))→
   asubS s (some (.int .i64 ((i+f:Nat):Int))) (some (.int .i64 ((i+f+runN isReg E:Nat):Int)))=some (.str (E.take (runN isReg E)))∧∀s6,s6.Wf→Tells T s6 (.fn 187 [] []) [.int .i64 k,.str (E.take (runN isReg E)),.int .i64 ((i+f+runN isReg E:Nat):Int)] (tk3 O):=by
  intro f k E h1 h2 h3
  have hrl:=runN_le isReg E
  have hEl:E.length=s.length - (i+f):=by rw[h2,List.length_drop]
  refine⟨?_,fun s6 hw=> ?_⟩
  ·rw[asubS_some (by omega) (by omega) (by omega),show ((i+f:Nat):Int).toNat=i+f by omega,show ((i+f+runN isReg E:Nat):Int).toNat - (i+f)=runN isReg E by omega,←h2]
  ·rw[h3,show i+(f+runN isReg E)=i+f+runN isReg E by omega]
   exact refNamed_tells H.chaseref04_named hw (by simp;omega)
 have y19:=hx.trans (Ext.aside hx.wf 19)
 obtain⟨I,hI⟩:∃I:Int,I=(i:Int):=⟨_,rfl⟩
 rw[←hI]at g1 ek1 ek2 hsub0 hsubc
 have hI0:0≤I:=by omega
 have hIt:I.toNat=i:=by omega
 by_cases hh47:R.head? =some 47
 ·have hDD:D=47:=t47.1 hh47
  rw[if_pos hh47,shift_text]at hO
  have hl2:i+2≤s.length:=(hpair 47 h47 hh47).1 |> fun h=>by omega
  obtain⟨m1,m2⟩:=hsl 2 5 (R.drop 1) hl2 (by rw[hR,List.drop_drop]) hO
  have ha:=fun(st':St) (hw:st'.Wf)=>haft st' hw 2 hl2
  rw[show s.drop (i+2)=R.drop 1 by rw[hR,List.drop_drop]]at ha
  rw[←hw2]at ha m1 m2
  clear hO hdrop1 hpair hsl
  generalize R.drop 1=E at*
  generalize w2+runN isReg E=z at*
  generalize E.take (runN isReg E)=X at*
  simp[go_sem,g0,g1,g4,g7,hI0,hIt,hc,←hC,hCC,hDD,ek2]
  refine(ha _ y19.wf).use fun s5 x5=> ?_
  have y5:=y19.trans x5
  simp[go_sem,g0,g1,ek2]
  refine(ha _ y5.wf).use fun s6 x6=> ?_
  have y6:=y5.trans x6
  simp[go_sem,g0,g1,ek2,m1]
  refine(m2 _ y6.wf).use fun s7 x7=> ?_
  obtain⟨k1,k2,k3⟩:=stop s7 O ((((Ext.aside hx.wf 19).trans x5).trans x6).trans x7) rfl
  simp[go_sem,k1,WO.run,fresults,resVals,resVal,RO.run,k2,tk3,k3,hres]
 ·have nD47:¬D=47:=fun h=>hh47 (t47.2 h)
  rw[if_neg hh47,shift_text]at hO
  obtain⟨m1,m2⟩:=hsl 1 4 R (by omega) hR hO
  have ha:=fun(st':St) (hw:st'.Wf)=>haft st' hw 1 (by omega)
  rw[←hR]at ha
  rw[←hw1]at ha m1 m2
  clear hO hdrop1 hpair hsl
  generalize w1+runN isReg R=z at*
  generalize R.take (runN isReg R)=X at*
  simp[go_sem,g0,g1,g4,g7,hI0,hIt,hc,←hC,hCC,nD47,ek1]
  refine(ha _ y19.wf).use fun s5 x5=> ?_
  have y5:=y19.trans x5
  simp[go_sem,g0,g1,ek1]
  refine(ha _ y5.wf).use fun s6 x6=> ?_
  have y6:=y5.trans x6
  simp[go_sem,g0,g1,ek1,m1]
  refine(m2 _ y6.wf).use fun s7 x7=> ?_
  obtain⟨k1,k2,k3⟩:=stop s7 O ((((Ext.aside hx.wf 19).trans x5).trans x6).trans x7) rfl
  simp[go_sem,k1,WO.run,fresults,resVals,resVal,RO.run,k2,tk3,k3,hres]
set_option maxHeartbeats 2000000 in
theorem rtBin (H:B.H_chaseref04_token T) {s3:St} (hx:Ext st s3) (hg:hget s3.h st.nx=some (.cells 134 true [.int .i64 0,.int .i64 0,.str []])) {i:Nat} {s:List UInt8} (hs:s.length≤65536) (hi:i<s.length) {c:UInt8} (hc:s[i]? =some c) {R:List UInt8} (hR:R=s.drop (i+1)) (hRl:R.length=s.length - (i+1)) (hd:s.drop i=c::R) {O:T3} (hO:O=shift i (binR c R))
  {e3:Env} (g0:eget e3 0= .str s) (g1:eget e3 1= .int .i64 (i:Int)) (g4:eget e3 4= .ptr st.nx 0) {D C:Int} (g7:eget e3 7= .int .u8 D) (t60:R.head? =some 60↔D=60) (t62:R.head? =some 62↔D=62) (t126:R.head? =some 126↔D=126) (t47:R.head? =some 47↔D=47) (hC:C=(c.toNat:Int)) (hcn:∀n:UInt8,c=n↔C=n.toNat) (n40:¬C=40) (n123:¬C=123) (n125:¬C=125) (n91:¬C=91) (n93:¬C=93) (n41:¬C=41) (n60:¬C=60) (n62:¬C=62) (n47:¬C=47) (hb:128≤c.toNat∧c.toNat<160):
  Res (run T B.chaseref04_token.body.b.b.b e3 s3) fun x e s=>(x= .norm∨x= .ret)∧fresults s.h e B.chaseref04_token.results=some (tk3 O)∧Ext st s:=by
 simp only[B.chaseref04_token,ab_seq]
 have e0:c.toNat=C.toNat:=by omega
 have stop:∀(s5:St) (t:T3),Ext s3 s5→O=t→wrCells s5.h st.nx 0 [.int .i64 t.1.1,.int .i64 t.1.2.1,.str t.1.2.2]=some (hset s5.h st.nx (.cells 134 true [.int .i64 t.1.1,.int .i64 t.1.2.1,.str t.1.2.2]))∧
   rdCells (hset s5.h st.nx (.cells 134 true [.int .i64 t.1.1,.int .i64 t.1.2.1,.str t.1.2.2])) st.nx 0 3=some [.int .i64 t.1.1,.int .i64 t.1.2.1,.str t.1.2.2]∧Ext st ⟨hset s5.h st.nx (.cells 134 true [.int .i64 t.1.1,.int .i64 t.1.2.1,.str t.1.2.2]),s5.nx⟩:=fun s5 t x5 _=>
  fin3 (hx.trans x5) (x5.get hx.wf hg) t
 have hres:B.chaseref04_token.results=[.cell 4 (some 3),.t 5,.t 6]:=rfl
 have hsub0:asubS s (some (.int .i64 (i:Int))) none=some (.str (s.drop i)):=by rw[asubS_from (by omega) (by omega)];simp
 obtain⟨w1,hw1⟩:∃w:Nat,w=i+1:=⟨_,rfl⟩
 obtain⟨w2,hw2⟩:∃w:Nat,w=i+2:=⟨_,rfl⟩
 have ek1:IntKind.i64.wrap ((i:Int)+1)=(w1:Int):=by rw[wrap64' (by omega) (by omega)];omega
 have ek2:IntKind.i64.wrap ((i:Int)+2)=(w2:Int):=by rw[wrap64' (by omega) (by omega)];omega
 have hsub1:asubS s (some (.int .i64 (w1:Int))) none=some (.str R):=by rw[asubS_from (by omega) (by omega),hR,show (w1:Int).toNat=i+1 by omega]
 have hsubc:asubS s (some (.int .i64 (i:Int))) (some (.int .i64 (w1:Int)))=some (.str [c]):=by
  rw[asubS_some (by omega) (by omega) (by omega),show (i:Int).toNat=i by omega,show (w1:Int).toNat - i=1 by omega,hd];rfl
 have hnm:=fun(k:Int) (x:List UInt8) (n:Nat) (h:x.length<1000000000000)=>refNamed_tells (st:=s3) H.chaseref04_named hx.wf (k:=k) (x:=x) (n:=n) h
 have b1:(128:Int)≤C:=by omega
 have b2:C≤159:=by omega
 rw[hR]at hO
 have hbin:=refBinary_tells H.chaseref04_binary hx.wf (by omega) hi hc hb.1
 rw[←hO]at hbin
 simp[go_sem,g0,g1,g4,g7,hc,←hC,n40,n123,n125,n91,n93,n60,n62,n41,n47,b1,b2]
 refine hbin.use fun s5 x5=> ?_
 obtain⟨k1,k2,k3⟩:=stop s5 O x5 rfl
 simp[go_sem,k1,WO.run,fresults,resVals,resVal,RO.run,k2,tk3,k3,hres]
set_option maxHeartbeats 2000000 in
theorem rtWord (H:B.H_chaseref04_token T) {s3:St} (hx:Ext st s3) (hg:hget s3.h st.nx=some (.cells 134 true [.int .i64 0,.int .i64 0,.str []])) {i:Nat} {s:List UInt8} (hs:s.length≤65536) (hi:i<s.length) {c:UInt8} (hc:s[i]? =some c) {R:List UInt8} (hR:R=s.drop (i+1)) (hRl:R.length=s.length - (i+1)) (hd:s.drop i=c::R) {O:T3} (hO:O=shift i (wordK (c::R)))
  {e3:Env} (g0:eget e3 0= .str s) (g1:eget e3 1= .int .i64 (i:Int)) (g4:eget e3 4= .ptr st.nx 0) {D C:Int} (g7:eget e3 7= .int .u8 D) (t60:R.head? =some 60↔D=60) (t62:R.head? =some 62↔D=62) (t126:R.head? =some 126↔D=126) (t47:R.head? =some 47↔D=47) (hC:C=(c.toNat:Int)) (hcn:∀n:UInt8,c=n↔C=n.toNat) (n40:¬C=40) (n123:¬C=123) (n125:¬C=125) (n91:¬C=91) (n93:¬C=93) (n41:¬C=41) (n60:¬C=60) (n62:¬C=62) (n47:¬C=47) (hb:¬(128≤c.toNat∧c.toNat<160)):
  Res (run T B.chaseref04_token.body.b.b.b e3 s3) fun x e s=>(x= .norm∨x= .ret)∧fresults s.h e B.chaseref04_token.results=some (tk3 O)∧Ext st s:=by
 simp only[B.chaseref04_token,ab_seq]
 have e0:c.toNat=C.toNat:=by omega
 have stop:∀(s5:St) (t:T3),Ext s3 s5→O=t→wrCells s5.h st.nx 0 [.int .i64 t.1.1,.int .i64 t.1.2.1,.str t.1.2.2]=some (hset s5.h st.nx (.cells 134 true [.int .i64 t.1.1,.int .i64 t.1.2.1,.str t.1.2.2]))∧
   rdCells (hset s5.h st.nx (.cells 134 true [.int .i64 t.1.1,.int .i64 t.1.2.1,.str t.1.2.2])) st.nx 0 3=some [.int .i64 t.1.1,.int .i64 t.1.2.1,.str t.1.2.2]∧Ext st ⟨hset s5.h st.nx (.cells 134 true [.int .i64 t.1.1,.int .i64 t.1.2.1,.str t.1.2.2]),s5.nx⟩:=fun s5 t x5 _=>
  fin3 (hx.trans x5) (x5.get hx.wf hg) t
 have hres:B.chaseref04_token.results=[.cell 4 (some 3),.t 5,.t 6]:=rfl
 have hsub0:asubS s (some (.int .i64 (i:Int))) none=some (.str (s.drop i)):=by rw[asubS_from (by omega) (by omega)];simp
 obtain⟨w1,hw1⟩:∃w:Nat,w=i+1:=⟨_,rfl⟩
 obtain⟨w2,hw2⟩:∃w:Nat,w=i+2:=⟨_,rfl⟩
 have ek1:IntKind.i64.wrap ((i:Int)+1)=(w1:Int):=by rw[wrap64' (by omega) (by omega)];omega
 have ek2:IntKind.i64.wrap ((i:Int)+2)=(w2:Int):=by rw[wrap64' (by omega) (by omega)];omega
 have hsub1:asubS s (some (.int .i64 (w1:Int))) none=some (.str R):=by rw[asubS_from (by omega) (by omega),hR,show (w1:Int).toNat=i+1 by omega]
 have hsubc:asubS s (some (.int .i64 (i:Int))) (some (.int .i64 (w1:Int)))=some (.str [c]):=by
  rw[asubS_some (by omega) (by omega) (by omega),show (i:Int).toNat=i by omega,show (w1:Int).toNat - i=1 by omega,hd];rfl
 have hnm:=fun(k:Int) (x:List UInt8) (n:Nat) (h:x.length<1000000000000)=>refNamed_tells (st:=s3) H.chaseref04_named hx.wf (k:=k) (x:=x) (n:=n) h
 have haft:=fun(st':St) (hw:st'.Wf) (f:Nat) (h:i+f≤s.length)=>after_tells (st:=st') H.chaseref04_after hw (s:=s) (i:=i+f) h (by omega)
 unfold wordK at hO
 rw[←hd]at hO
 have ha:=fun(st':St) (hw:st'.Wf)=>haft st' hw 0 (by omega)
 simp only[Nat.add_zero]at ha
 have hrl:=runN_le isReg (s.drop i)
 rw[List.length_drop]at hrl
 obtain⟨z,hz⟩:∃z:Nat,z=i+runN isReg (s.drop i):=⟨_,rfl⟩
 have hsubz:asubS s (some (.int .i64 (i:Int))) (some (.int .i64 (z:Int)))=some (.str ((s.drop i).take (runN isReg (s.drop i)))):=by
  rw[asubS_some (by omega) (by omega) (by omega),show (i:Int).toNat=i by omega,show (z:Int).toNat - i=runN isReg (s.drop i)by omega]
 have hwd:=fun(st':St) (hw:st'.Wf)=>refWord_tells (st:=st') H.chaseref03_Word hw (s:=(s.drop i).take (runN isReg (s.drop i))) (by simp;omega)
 simp only[word_law]at hwd
 rw[←hz]at ha
 generalize hWt:wordT ((s.drop i).take (runN isReg (s.drop i)))=Wt at*
 obtain⟨wk,wn,wx,we⟩:=Wt
 simp only at hO
 generalize (s.drop i).take (runN isReg (s.drop i))=X at*
 have hbb:(128≤c.toNat∧(128:Int)≤C∧¬C≤159)∨((¬128≤c.toNat)∧¬(128:Int)≤C∧True):=by
  by_cases h:128≤c.toNat
  ·exact .inl ⟨h,by omega,by omega⟩
  ·exact .inr ⟨h,by omega,trivial⟩
 clear hsub1 hsubc hnm t60 t62 t126 t47
 rcases hbb with ⟨_,b1,b2⟩ | ⟨_,b1,b2⟩
 all_goals
  simp[go_sem,g0,g1,g4,g7,hc,←hC,n40,n123,n125,n91,n93,n60,n62,n41,n47,b1,b2]
  refine(ha _ hx.wf).use fun s5 x5=> ?_
  have y5:=hx.trans x5
  simp[go_sem,hsubz]
  refine(hwd _ y5.wf).use fun s6 x6=> ?_
  have y6:=y5.trans x6
  have g6:=x6.get y5.wf (x5.get hx.wf hg)
  have x7:=Ext.new y6.wf (.cells 134 true [.int .i64 wk,.int .i64 wn,.str wx])
  have y7:=y6.trans x7
  have g7':=x7.get y6.wf g6
  simp[go_sem,toW,tokA,tokC,NO.run,WO.run,wr_tok]
  by_cases hwe:we=0
  ·rw[if_neg (by simpa using hwe)]at hO
   have hO2:O=((wk,wn,wx),z,0):=by rw[hO,hz];rfl
   subst hO2
   have y8:=y7.trans (Ext.aside y7.wf 8)
   simp[go_sem,hwe,g0,g1,g4,RO.run,rd_tok,Nat.add_assoc]
   refine(ha _ y8.wf).use fun s9 x9=> ?_
   have y9:=y8.trans x9
   have x9':=((Ext.aside y7.wf 8).trans x9)
   have g9:=x9'.get y7.wf g7'
   have z9:=x9'.get y7.wf (n:=s6.nx) (o:= .cells 134 true [.int .i64 wk,.int .i64 wn,.str wx]) (by simp[hget_cons])
   obtain⟨k1,k2,k3⟩:=fin3 (st:=st) y9 g9 ((wk,wn,wx),z,0)
   simp only at k1 k2 k3
   simp[go_sem,reI,RO.run,tok_rd z9]
   refine⟨rfl,?_⟩
   simp[go_sem,g4,k1,WO.run,fresults,resVals,resVal,RO.run,k2,tk3,k3,hres]
  ·rw[if_pos hwe,shift_err _ _ hwe]at hO
   subst hO
   obtain⟨k1,k2,k3⟩:=fin3 (st:=st) y7 g7' (err3 we)
   simp only[err3]at k1 k2 k3
   simp[go_sem,hwe,g4,k1,WO.run,fresults,resVals,resVal,RO.run,k2,tk3,err3,k3,hres]
theorem refToken_tells (H:B.H_chaseref04_token T) (hwf:st.Wf) {i:Nat} {s:List UInt8} (hs:s.length≤65536) (hi:i<s.length):Tells T st (.fn 177 [] []) [.str s,.int .i64 (i:Int)] (tk3 (shift i (tokS (s.drop i)))):=by
 refine tells_of H.e H.f rfl ?_
 have hx:=Ext.new hwf (.cells 134 true [.int .i64 0,.int .i64 0,.str []])
 have hg:=zero_tok st.h st.nx
 obtain⟨c,hc,hd⟩:=idx_some hi
 obtain⟨R,hR⟩:∃R,R=s.drop (i+1):=⟨_,rfl⟩
 have hRl:R.length=s.length - (i+1):=by rw[hR,List.length_drop]
 rw[←hR]at hd
 obtain⟨O,hO⟩:∃O,O=shift i (tokS (s.drop i)):=⟨_,rfl⟩
 rw[←hO]
 rw[hd]at hO
 refine seq_cut (fun x e' s'=>x= .norm∧s'=⟨(st.nx,AObj.cells 134 true [.int .i64 0,.int .i64 0,.str []])::st.h,st.nx+1⟩∧eget e' 0= .str s∧eget e' 1= .int .i64 (i:Int)∧eget e' 4= .ptr st.nx 0) (by simp) ?_ ?_
 ·simp[go_sem,NO.run]
 rintro _ e1 s1 ⟨rfl,hst,g0,g1,g4⟩
 rw[kSeq_norm]
 have hsh:s1.h=(st.nx,AObj.cells 134 true [.int .i64 0,.int .i64 0,.str []])::st.h:=by rw[hst]
 rw[←hst]at hx
 rw[←hsh]at hg
 clear hst hsh
 refine seq_cut (fun x e' s'=>x= .norm∧s'=s1∧eget e' 0= .str s∧eget e' 1= .int .i64 (i:Int)∧eget e' 4= .ptr st.nx 0∧eget e' 7= .int .u8 0) (by simp) ?_ ?_
 ·simp[go_sem,g0,g1,g4]
 rintro _ e2 s2 ⟨rfl,rfl,g0,g1,g4,g7⟩
 rw[kSeq_norm]
 refine seq_cut (fun x e' s'=>x= .norm∧s'=s2∧eget e' 0= .str s∧eget e' 1= .int .i64 (i:Int)∧eget e' 4= .ptr st.nx 0∧eget e' 7= .int .u8 ((twoC R).toNat:Int)) (by simp) ?_ ?_
 ·obtain⟨w,hw⟩:∃w:Int,w=(i:Int)+1:=⟨_,rfl⟩
  have ek:IntKind.i64.wrap ((i:Int)+1)=w:=by rw[hw,wrap64' (by omega) (by omega)]
  by_cases h:i+1<s.length
  ·obtain⟨d,hdd,hdr⟩:=idx_some h
   have hR2:R=d::s.drop (i+1+1):=by rw[hR,hdr]
   have h1:w<s.length:=by omega
   have h2:(0:Int)≤w:=by omega
   have h3:w.toNat=i+1:=by omega
   rw[hR2]
   simp[go_sem,g0,g1,g4,g7,ek,h1,h2,h3,hdd,twoC]
  ·have hR2:R=[]:=List.length_eq_zero_iff.1 (by omega)
   have h1:¬w<s.length:=by omega
   rw[hR2]
   simp[go_sem,g0,g1,g4,g7,ek,h1,twoC]
 rintro _ e3 s3 ⟨rfl,rfl,g0,g1,g4,g7⟩
 rw[kSeq_norm]
 have t60:=two_head R 60 (by decide)
 have t62:=two_head R 62 (by decide)
 have t126:=two_head R 126 (by decide)
 have t47:=two_head R 47 (by decide)
 obtain⟨D,hD⟩:∃D:Int,D=((twoC R).toNat:Int):=⟨_,rfl⟩
 have hdn:∀n:UInt8,twoC R=n↔D=n.toNat:=fun n=>by rw[hD,←UInt8.toNat_inj];omega
 rw[hdn]at t60 t62 t126 t47
 rw[←hD]at g7
 obtain⟨C,hC⟩:∃C:Int,C=(c.toNat:Int):=⟨_,rfl⟩
 have hcn:∀n:UInt8,c=n↔C=n.toNat:=fun n=>by rw[hC,←UInt8.toNat_inj];omega
 by_cases h40:c=40
 ·exact rt40 H hx hg hs hi hc hR hRl hd hO g0 g1 g4 g7 t60 t62 t126 t47 hC hcn h40
 rw[tokS,if_neg h40]at hO
 by_cases hsm:c=41∨c=123∨c=125∨c=91∨c=93
 ·refine rtSmall H hx hg hs hi hc hR hRl hd (O:=O) ?_ g0 g1 g4 g7 t60 t62 t126 t47 hC hcn h40 hsm
  rw[hO]
  rcases hsm with rfl | rfl | rfl | rfl | rfl <;> rfl
 have h41:¬c=41:=fun h=>hsm (.inl h)
 have h123:¬c=123:=fun h=>hsm (.inr (.inl h))
 have h125:¬c=125:=fun h=>hsm (.inr (.inr (.inl h)))
 have h91:¬c=91:=fun h=>hsm (.inr (.inr (.inr (.inl h))))
 have h93:¬c=93:=fun h=>hsm (.inr (.inr (.inr (.inr h))))
 have n40:¬C=40:=fun h=>h40 ((hcn 40).2 h)
 have n41:¬C=41:=fun h=>h41 ((hcn 41).2 h)
 have n123:¬C=123:=fun h=>h123 ((hcn 123).2 h)
 have n125:¬C=125:=fun h=>h125 ((hcn 125).2 h)
 have n91:¬C=91:=fun h=>h91 ((hcn 91).2 h)
 have n93:¬C=93:=fun h=>h93 ((hcn 93).2 h)
 rw[if_neg h41,if_neg h123,if_neg h125,if_neg (fun h=>h.elim h91 h93)]at hO
 by_cases h60:c=60
 ·rw[if_pos h60]at hO
  exact rt60 H hx hg hs hi hc hR hRl hd hO g0 g1 g4 g7 t60 t62 t126 t47 hC hcn n40 n123 n125 n91 n93 n41 h60
 rw[if_neg h60]at hO
 have n60:¬C=60:=fun h=>h60 ((hcn 60).2 h)
 by_cases h62:c=62
 ·rw[if_pos h62]at hO
  exact rt62 H hx hg hs hi hc hR hRl hd hO g0 g1 g4 g7 t60 t62 t126 t47 hC hcn n40 n123 n125 n91 n93 n41 n60 h62
 rw[if_neg h62]at hO
 have n62:¬C=62:=fun h=>h62 ((hcn 62).2 h)
 by_cases h47:c=47
 ·rw[if_pos h47]at hO
  exact rt47 H hx hg hs hi hc hR hRl hd hO g0 g1 g4 g7 t60 t62 t126 t47 hC hcn n40 n123 n125 n91 n93 n41 n60 n62 h47
 rw[if_neg h47]at hO
 have n47:¬C=47:=fun h=>h47 ((hcn 47).2 h)
 by_cases hb:128≤c.toNat∧c.toNat<160
 ·rw[if_pos hb]at hO
  exact rtBin H hx hg hs hi hc hR hRl hd hO g0 g1 g4 g7 t60 t62 t126 t47 hC hcn n40 n123 n125 n91 n93 n41 n60 n62 n47 hb
 rw[if_neg hb]at hO
 exact rtWord H hx hg hs hi hc hR hRl hd hO g0 g1 g4 g7 t60 t62 t126 t47 hC hcn n40 n123 n125 n91 n93 n41 n60 n62 n47 hb
end Go.Ev

/- The reference's Next. -/
namespace Go.Ev
open Go
set_option linter.unusedSimpArgs false
set_option linter.unusedSectionVars false
set_option linter.unusedVariables false
variable {T : Tab} {st : St}
theorem refNext_tells (H:B.H_chaseref04_Next T) (hwf:st.Wf) {s:List UInt8} {i:Int} (hi0: -9223372036854775808≤i) (hi1:i≤9223372036854775807) (hs:s.length<1000000000):Tells T st (.fn 159 [] []) [.str s,.int .i64 i] (tk3 (nextS s i)):=by
 refine tells_of H.e H.f rfl ?_
 have hx:=Ext.new hwf (.cells 134 true [.int .i64 0,.int .i64 0,.str []])
 have hg:=zero_tok st.h st.nx
 obtain⟨O,hO⟩:∃O,O=nextS s i:=⟨_,rfl⟩
 rw[←hO]
 unfold nextS at hO
 by_cases hl:65536<s.length
 ·rw[if_pos hl]at hO
  subst hO
  obtain⟨k1,k2,k3⟩:=fin3 (st:=st) hx hg (err3 3)
  simp only[err3]at k1 k2 k3
  simp[B.chaseref04_Next,go_sem,NO.run,hl,show (65536:Int)<s.length by omega,k1,WO.run,fresults,resVals,resVal,RO.run,k2,tk3,err3,k3]
 ·rw[if_neg hl]at hO
  have hl':¬(65536:Int)<s.length:=by omega
  by_cases hb:i<0∨(s.length:Int)<i
  ·rw[if_pos hb]at hO
   subst hO
   obtain⟨k1,k2,k3⟩:=fin3 (st:=st) hx hg (err3 2)
   simp only[err3]at k1 k2 k3
   by_cases h0:i<0
   ·simp[B.chaseref04_Next,go_sem,NO.run,hl,hl',h0,k1,WO.run,fresults,resVals,resVal,RO.run,k2,tk3,err3,k3]
   ·have h2:(s.length:Int)<i:=by rcases hb with h | h;exact absurd h h0;exact h
    simp[B.chaseref04_Next,go_sem,NO.run,hl,hl',h0,h2,k1,WO.run,fresults,resVals,resVal,RO.run,k2,tk3,err3,k3]
  ·rw[if_neg hb]at hO
   have h0:¬i<0:=fun h=>hb (.inl h)
   have h2:¬(s.length:Int)<i:=fun h=>hb (.inr h)
   obtain⟨j,rfl⟩:=Int.eq_ofNat_of_zero_le (show 0≤i by omega)
   simp only[Int.toNat_natCast]at hO
   have hsk:=fun(st':St) (hw:st'.Wf)=>refSkip_tells (st:=st') H.chaseref04_skip hw (s:=s) (i:=j) (by omega) (by omega)
   have hle:=skp_le false (s.drop j)
   rw[List.length_drop]at hle
   generalize hK:j+skp false (s.drop j)=K at*
   simp[B.chaseref04_Next,go_sem,NO.run,hl,hl',h0,h2]
   refine(hsk _ hx.wf).use fun s2 x2=> ?_
   have y2:=hx.trans x2
   have hg2:=x2.get hx.wf hg
   by_cases hKe:K=s.length
   ·rw[if_pos hKe]at hO
    subst hO
    have hKe':(K:Int)=s.length:=by omega
    obtain⟨k1,k2,k3⟩:=fin3 (st:=st) y2 hg2 ((0,0,[]),K,4)
    simp only at k1 k2 k3
    simp[go_sem,hKe,k1,WO.run,fresults,resVals,resVal,RO.run,k2,tk3,k3]
   ·rw[if_neg hKe]at hO
    have hKe':¬(K:Int)=s.length:=by omega
    have htk:=refToken_tells H.chaseref04_token y2.wf (s:=s) (i:=K) (by omega) (by omega)
    have hok:=tokS_ok (s.drop K)
    generalize tokS (s.drop K)=W at*
    obtain⟨⟨wk,wn,wx⟩,wl,we⟩:=W
    simp only at hO
    simp[go_sem,hKe,hKe']
    refine htk.use fun s3 x3=> ?_
    have y3:=y2.trans x3
    have hg3:=x3.get y2.wf hg2
    by_cases hwe:we=0
    ·subst hwe
     have hsh:shift K ((wk,wn,wx),wl,0)=((wk,wn,wx),K+wl,0):=by simp[shift]
     rw[hsh]
     obtain⟨z,hz⟩:∃z,z=K+wl:=⟨_,rfl⟩
     rw[←hz]at hO⊢
     subst hO
     have x4:=Ext.new y3.wf (.cells 134 true [.int .i64 wk,.int .i64 wn,.str wx])
     have y4:=y3.trans x4
     have hg4:=x4.get y3.wf hg3
     obtain⟨k1,k2,k3⟩:=fin3 (st:=st) y4 hg4 ((wk,wn,wx),z,0)
     simp only at k1 k2 k3
     simp[go_sem,tk3,NO.run,WO.run,RO.run,wr_tok,rd_tok,k1,fresults,resVals,resVal,k2,k3]
    ·have hsh:shift K ((wk,wn,wx),wl,we)=err3 we:=by
      rcases hok with h | h
      ·exact absurd h hwe
      ·simp only at h
       rw[h,shift_err _ _ hwe]
     have hO2:O=((0,0,[]),K,we):=by
      rcases hok with h | h
      ·exact absurd h hwe
      ·simp only[err3,Prod.mk.injEq]at h
       obtain⟨⟨a1,a2,a3⟩,a4,_⟩:=h
       rw[hO,a1,a2,a3,a4];rfl
     rw[hsh]
     subst hO2
     have x4:=Ext.new y3.wf (.cells 134 true [.int .i64 0,.int .i64 0,.str []])
     have y4:=y3.trans x4
     have hg4:=x4.get y3.wf hg3
     obtain⟨k1,k2,k3⟩:=fin3 (st:=st) y4 hg4 ((0,0,[]),K,we)
     simp only at k1 k2 k3
     simp[go_sem,tk3,err3,hwe,NO.run,WO.run,RO.run,wr_tok,k1,fresults,resVals,resVal,k2,k3]
end Go.Ev

/- A closed call run by the kernel: what it answers, and that what was there stays. -/
namespace Go.Ev
open Go
set_option linter.unusedVariables false
variable {T : Tab}
def okNames:List Nat→Bool
 | []=>true
 | n::r=> !hmem n r && okNames r
def allLt (k:Nat):List Nat→Bool
 | []=>true
 | n::r=>decide (n<k) && allLt k r
def okSt (k:Nat) (s:St):Bool:=okNames (s.h.map (·.1)) && (allLt s.nx (s.h.map (·.1)) && decide (k≤s.nx))
theorem hmem_false {n:Nat}:∀{l:List Nat},hmem n l=false→n∉l
 | [],_=>by simp
 | m::l,h=>by
   simp only[hmem]at h
   split at h
   ·cases h
   ·rename_i e
    simp only[List.mem_cons,not_or]
    exact⟨fun h=>e h.symm,hmem_false h⟩
theorem okNames_nodup:∀{l:List Nat},okNames l=true→l.Nodup
 | [],_=>List.nodup_nil
 | n::l,h=>by
   simp only[okNames,Bool.and_eq_true,Bool.not_eq_true']at h
   exact List.nodup_cons.2 ⟨hmem_false h.1,okNames_nodup h.2⟩
theorem allLt_mem {k:Nat}:∀{l:List Nat},allLt k l=true→∀n∈l,n<k
 | [],_,n,hn=>by cases hn
 | m::l,h,n,hn=>by
   simp only[allLt,Bool.and_eq_true,decide_eq_true_eq]at h
   rcases List.mem_cons.1 hn with rfl | hn
   ·exact h.1
   ·exact allLt_mem h.2 n hn
theorem okSt_wf {k:Nat} {s:St} (h:okSt k s=true):s.Wf∧k≤s.nx:=by
 simp only[okSt,Bool.and_eq_true,decide_eq_true_eq]at h
 refine⟨⟨fun n o ho=>allLt_mem h.2.1 n ?_,okNames_nodup h.1⟩,h.2.2⟩
 exact List.mem_map.2 ⟨(n,o),hget_mem ho,rfl⟩
def lookAt (k:Nat) (r:Option (Ex×Env×St)):Option (AV×Bool×List (Option AObj)):=
 match r with
 | some (.ret,e,s)=>some (eget e 0,okSt k s,(List.range k).map (hget s.h))
 | _=>none
theorem closed_res {f n:Nat} {mf:MFun} (hen:T.en f=none) (hf:T.fn f=some mf) (h0:mf.nargs=0) (hr:mf.results=[.t 0]) {st:St} {v:AV}
  (h:lookAt st.nx (exec T n mf.body [] st)=some (v,true,(List.range st.nx).map (hget st.h))):CRes (call T (.fn f [] []) [] st) fun v' s=>v'=v∧Ext st s:=by
 refine call_res hen hf (by simp[h0]) ?_
 cases hx:exec T n mf.body [] st with
 | none=>rw[hx]at h;cases h
 | some p=>
   obtain⟨x,e,s⟩:=p
   rw[hx]at h
   cases x with
   | norm=>cases h
   | exit i=>cases h
   | ret=>
     simp only[lookAt,Option.some.injEq,Prod.mk.injEq]at h
     obtain⟨hv,hs,hk⟩:=h
     obtain⟨hwf,hnx⟩:=okSt_wf hs
     have hrun:run T mf.body (argEnv 0 ([]++[]++[])) st=some (.ret,e,s):=run_iff.2 ⟨n,hx⟩
     rw[hrun]
     refine⟨.inr rfl,v,by rw[hr];simp[fresults,resVals,resVal,hv],rfl,?_⟩
     have x1:Ext st s:=⟨hnx,hwf,fun m hm=>by
      have:=congrArg (fun l=>l[m]?) hk
      simp only[List.getElem?_map,List.getElem?_range hm,Option.map_some,Option.some.injEq]at this
      exact this⟩
     exact x1.dropLoc
end Go.Ev

/- ScanNexts told, where works holds. -/
namespace Go.Ev
open Go
set_option linter.unusedSimpArgs false
set_option linter.unusedSectionVars false
set_option linter.unusedVariables false
variable {T : Tab} {st : St}
theorem eq_tok (k n:Int) (t:List UInt8):cellsEqK [.i .i64,.i .i64,.s] [.int .i64 k,.int .i64 n,.str t] [.int .i64 k,.int .i64 n,.str t]=some true:=by
 rw[tok_eq];simp
theorem nexts_l0 {st0:St} {l:List UInt8} {v:AV} (hl:l.length≤60) {a0 a2:AV}:∀(m i:Nat) (S:List UInt8) (e:Env) (st1:St),i+m=l.length→S.length≤i→Ext st0 st1→InL st1.h v l→eget e 0=a0→eget e 2=a2→eget e 7= .str S→eget e 27=v→eget e 28= .int .i64 l.length→eget e 29= .int .i64 i→
  Res (run T (.loop B.chaselaw04_ScanNexts_l0) e st1) fun x e' s'=>x= .exit 0∧Ext st0 s'∧eget e' 0=a0∧eget e' 2=a2∧∃S:List UInt8,eget e' 7= .str S∧S.length≤60:=by
 intro m
 induction m with
 | zero=>
   intro i S e st1 hi hS hx hv g0 g2 g7 g27 g28 g29
   have:i=l.length:=by omega
   subst this
   rw[run_loop]
   simp[B.chaselaw04_ScanNexts_l0,go_sem,g0,g2,g7,g27,g28,g29,hx]
   omega
 | succ m ih=>
   intro i S e st1 hi hS hx hv g0 g2 g7 g27 g28 g29
   have hil:(i:Int)<l.length:=by omega
   obtain⟨c,hc,hd⟩:=idx_some (s:=l) (i:=i) (by omega)
   obtain⟨n,hvn,hr⟩:=hv.at hc
   have e18:IntKind.i64.wrap ((i:Int)+1)=((i+1:Nat):Int):=wrap64' (by omega) (by omega)
   have cl:=c.toNat_lt
   have wc:IntKind.i64.wrap (c.toNat:Int)=(c.toNat:Int):=wrap64' (by omega) (by omega)
   obtain⟨r,hr2⟩:∃r:Nat,r=c.toNat % 31:=⟨_,rfl⟩
   have hm:(c.toNat:Int).tmod 31=(r:Int):=by rw[Int.tmod_eq_emod_of_nonneg (by omega)];omega
   have hr31:r<31:=by omega
   obtain⟨r1,hr1⟩:∃r1:Nat,r1=r+1:=⟨_,rfl⟩
   have er:IntKind.i64.wrap ((r:Int)+1)=(r1:Int):=by rw[wrap64' (by omega) (by omega)];omega
   obtain⟨M,hM⟩:∃M:List UInt8,M=[40,40,41,60,60,62,62,91,123,125,47,47,37,126,32,10,92,97,49,35,46,53,128,129,132,135,1,0,159,160,45]:=⟨_,rfl⟩
   have hMl:M.length=31:=by rw[hM];rfl
   have hsub:asubS M (some (.int .i64 (r:Int))) (some (.int .i64 (r1:Int)))=some (.str ((M.drop r).take 1)):=by
    rw[asubS_some (by omega) (by omega) (by omega),show (r:Int).toNat=r by omega,show (r1:Int).toNat - r=1 by omega]
   have hl1:((M.drop r).take 1).length≤1:=by simp;omega
   have hcl:S.length+((M.drop r).take 1).length<4611686018427387904:=by omega
   generalize hX:(M.drop r).take 1=X at*
   clear hX hMl
   rw[hM]at hsub
   clear hM
   have ih2:=fun e' s'=>ih (i+1) (S++X) e' s' (by omega) (by rw[List.length_append];omega)
   rw[run_loop]
   subst hvn
   simp[B.chaselaw04_ScanNexts_l0,go_sem,g0,g2,g7,g27,g28,g29,hil,RO.run,hr,wc,hm,er,hsub,hcl]
   exact ih2 _ st1 hx hv (by simp[go_sem,g0]) (by simp[go_sem,g2]) (by simp[go_sem]) (by simp[go_sem,g27]) (by simp[go_sem,g28]) (by simp[go_sem,g29,e18])
theorem nexts_l1 (H:B.H_chaselaw04_ScanNexts T) {st0:St} {s:List UInt8} (hs:s.length<1000000000) {a2 a49 a50:AV} {i0 i1 i2:Int} (h0: -9223372036854775808≤i0∧i0≤9223372036854775807) (h1: -9223372036854775808≤i1∧i1≤9223372036854775807) (h2: -9223372036854775808≤i2∧i2≤9223372036854775807):∀(m j:Nat) (e:Env) (st1:St),j+m=3→Ext st0 st1→eget e 2=a2→eget e 12= .str s→eget e 49=a49→eget e 50=a50→eget e 57= .agg [.int .i64 i0,.int .i64 i1,.int .i64 i2]→eget e 58= .int .i64 (j:Int)→
  Res (run T (.loop B.chaselaw04_ScanNexts_l1) e st1) fun x e' s'=>x= .exit 4∧Ext st0 s'∧eget e' 2=a2∧eget e' 49=a49∧eget e' 50=a50:=by
 intro m
 induction m with
 | zero=>
   intro j e st1 hj hx g2 g12 g49 g50 g57 g58
   have:j=3:=by omega
   subst this
   rw[run_loop]
   simp[B.chaselaw04_ScanNexts_l1,go_sem,g2,g12,g49,g50,g57,g58,hx]
 | succ m ih=>
   intro j e st1 hj hx g2 g12 g49 g50 g57 g58
   have h3:(j:Int)<3:=by omega
   have h3':j<3:=by omega
   obtain⟨I,hI,hb⟩:∃I:Int,[i0,i1,i2][j]? =some I∧-9223372036854775808≤I∧I≤9223372036854775807:=by
    have:j=0∨j=1∨j=2:=by omega
    rcases this with rfl | rfl | rfl
    ·exact⟨i0,rfl,h0⟩
    ·exact⟨i1,rfl,h1⟩
    ·exact⟨i2,rfl,h2⟩
   have hget2:[AV.int .i64 i0,.int .i64 i1,.int .i64 i2][j]? =some (.int .i64 I):=by
    have:=congrArg (Option.map (AV.int .i64)) hI
    rw[←List.getElem?_map]at this
    exact this
   have ek:IntKind.i64.wrap ((j:Int)+1)=((j+1:Nat):Int):=wrap64' (by omega) (by omega)
   have hn:=fun(st':St) (hw:st'.Wf)=>next_tells158 (st:=st') H.scan_Next hw (s:=s) (i:=I) hb.1 hb.2 hs
   have hn2:=fun(st':St) (hw:st'.Wf)=>refNext_tells (st:=st') H.chaseref04_Next hw (s:=s) (i:=I) hb.1 hb.2 hs
   have ih2:=fun e' s'=>ih (j+1) e' s' (by omega)
   clear ih hj
   generalize nextS s I=O at*
   obtain⟨⟨k,n,t⟩,a,er⟩:=O
   obtain⟨J,hJ⟩:∃J:Int,J=(j:Int):=⟨_,rfl⟩
   rw[←hJ]at g58 h3 ek
   have hJ0:(0:Int)≤J:=by omega
   have hJt:J.toNat=j:=by omega
   clear h3'
   rw[run_loop]
   simp[B.chaselaw04_ScanNexts_l1,go_sem,g2,g12,g49,g50,g57,g58,h3,hJ0,hJt,hget2]
   refine(hn _ hx.wf).use fun s1 x1=> ?_
   have y1:=hx.trans x1
   have x2:=Ext.new y1.wf (.cells 134 true [.int .i64 k,.int .i64 n,.str t])
   have y2:=y1.trans x2
   simp[go_sem,tk3,NO.run,WO.run,wr_tok]
   refine(hn2 _ y2.wf).use fun s3 x3=> ?_
   have y3:=y2.trans x3
   have r3:=tok_rd (x3.get y2.wf (n:=s1.nx) (o:= .cells 134 true [.int .i64 k,.int .i64 n,.str t]) (by simp[hget_cons]))
   have x4:=Ext.new y3.wf (.cells 134 true [.int .i64 k,.int .i64 n,.str t])
   have y4:=y3.trans x4
   have r4:=tok_rd (x4.get y3.wf (x3.get y2.wf (n:=s1.nx) (o:= .cells 134 true [.int .i64 k,.int .i64 n,.str t]) (by simp[hget_cons])))
   have hne:¬s3.nx=s1.nx:=by have:=x3.nx;simp only at this;omega
   simp[go_sem,tk3,NO.run,WO.run,RO.run,wr_tok,rd_tok,r4,eq_tok]
   exact ih2 _ _ y4 (by simp[go_sem]) (by simp[go_sem]) (by simp[go_sem]) (by simp[go_sem]) (by simp[go_sem]) (by simp[go_sem,ek])
theorem nexts_l2 (H:B.H_chaselaw04_ScanNexts T) {st0:St} {sA sB:List UInt8} (hA:sA.length≤300) (hB:sB.length≤300) {i0:Int} (h0: -9223372036854775808≤i0∧i0≤9223372036854775807):∀(m j:Nat) (e:Env) (st1:St),j+m=2→Ext st0 st1→eget e 2= .int .i64 i0→eget e 49= .agg [.str sA,.str sB]→eget e 50= .int .i64 (j:Int)→
  Res (run T (.loop B.chaselaw04_ScanNexts_l2) e st1) fun x e' s'=>x= .exit 2∧Ext st0 s':=by
 intro m
 induction m with
 | zero=>
   intro j e st1 hj hx g2 g49 g50
   have:j=2:=by omega
   subst this
   rw[run_loop]
   simp[B.chaselaw04_ScanNexts_l2,go_sem,g2,g49,g50,hx]
 | succ m ih=>
   intro j e st1 hj hx g2 g49 g50
   have h3:(j:Int)<2:=by omega
   obtain⟨S,hS,hb⟩:∃S:List UInt8,[sA,sB][j]? =some S∧S.length≤300:=by
    have:j=0∨j=1:=by omega
    rcases this with rfl | rfl
    ·exact⟨sA,rfl,hA⟩
    ·exact⟨sB,rfl,hB⟩
   have hget2:[AV.str sA,.str sB][j]? =some (.str S):=by
    have:=congrArg (Option.map AV.str) hS
    rw[←List.getElem?_map]at this
    exact this
   have ek:IntKind.i64.wrap ((j:Int)+1)=((j+1:Nat):Int):=wrap64' (by omega) (by omega)
   obtain⟨h2,hh2⟩:∃h:Int,h=((S.length / 2:Nat):Int):=⟨_,rfl⟩
   have hq:(S.length:Int).tdiv 2=h2:=by rw[Int.tdiv_eq_ediv_of_nonneg (by omega)];omega
   have wq:IntKind.i64.wrap h2=h2:=wrap64' (by omega) (by omega)
   have ih2:=fun e' s'=>ih (j+1) e' s' (by omega)
   have hb2: -9223372036854775808≤h2∧h2≤9223372036854775807:=by omega
   obtain⟨J,hJ⟩:∃J:Int,J=(j:Int):=⟨_,rfl⟩
   rw[←hJ]at g50 h3 ek
   have hJ0:(0:Int)≤J:=by omega
   have hJt:J.toNat=j:=by omega
   clear ih hj hS hh2
   rw[run_loop]
   simp[B.chaselaw04_ScanNexts_l2,go_sem,g2,g49,g50,h3,hJ0,hJt,hget2,hq,wq]
   refine(nexts_l1 H (st0:=st0) (s:=S) (by omega) (a2:= .int .i64 i0) (a49:= .agg [.str sA,.str sB]) (a50:= .int .i64 J) h0 (i1:=0) (by decide) hb2 3 0 _ st1 (by omega) hx (by simp[go_sem]) (by simp[go_sem]) (by simp[go_sem]) (by simp[go_sem]) (by simp[go_sem]) (by simp[go_sem])).mono ?_
   rintro x e2 s2 ⟨rfl,x2,k2,k49,k50⟩
   simp[go_sem,k2,k49,k50]
   exact ih2 _ _ x2 (by simp[go_sem,k2]) (by simp[go_sem,k49]) (by simp[go_sem,k50,ek])
theorem nexts_res (H:B.H_chaselaw04_ScanNexts T) (hwf:st.Wf) {src:List UInt8} (hs:src.length<1000000000000000) {v:AV} {l:List UInt8} (hv:InL st.h v l) (hl:l.length<9223372036854775808) {i0:Int} (h0: -9223372036854775808≤i0∧i0≤9223372036854775807)
  (hworks:CRes (call T (.fn 157 [] []) [] st) fun v s=>v= .bool true∧Ext st s):CRes (call T (.fn 150 [] []) [.str src,v,.int .i64 i0] st) fun v _=>v= .bool true:=by
 refine call_res H.e H.f rfl ?_
 simp[B.chaselaw04_ScanNexts,go_sem]
 refine hworks.mono ?_
 rintro _ s1 ⟨rfl,x1⟩
 obtain⟨q,hq⟩:∃q,q=min src.length 300:=⟨_,rfl⟩
 have hqm:(if(300:Int)<(src.length:Int)then 300 else(src.length:Int))=(q:Int):=by rw[hq];split <;> omega
 have hqs:asubS src none (some (.int .i64 (q:Int)))=some (.str (src.take q)):=by rw[asubS_to (by omega) (by omega)];simp
 have hA:(src.take q).length≤300:=by simp;omega
 have tail:∀(e:Env) (s2:St) (S:List UInt8),Ext st s2→S.length≤60→eget e 2= .int .i64 i0→eget e 49= .agg [.str (src.take q),.str S]→eget e 50= .int .i64 0→Res (run T (.loop B.chaselaw04_ScanNexts_l2) e s2) fun x e' s'=>x= .exit 2∧Ext st s':=
  fun e s2 S x2 hS k2 k49 k50=>nexts_l2 H hA (by omega) h0 2 0 e s2 (by omega) x2 k2 k49 k50
 rcases hv with ⟨rfl,rfl⟩ | ⟨n,full,rfl,h2,h3⟩
 ·simp[go_sem,asubL,abounds,bnd,abound,topOf,subCap]
  refine(nexts_l0 (st0:=st) (l:=[]) (v:= .nilslice) (by simp) (a0:= .str src) (a2:= .int .i64 i0) 0 0 [] _ s1 (by simp) (by simp) x1 (.inl ⟨rfl,rfl⟩) (by simp[go_sem]) (by simp[go_sem]) (by simp[go_sem]) (by simp[go_sem]) (by simp[go_sem]) (by simp[go_sem])).mono ?_
  rintro x e s2 ⟨rfl,x2,g0,g2,S,g7,hS⟩
  simp[go_sem,g0,g2,g7,hqm,hqs]
  refine(tail _ s2 S x2 hS (by simp[go_sem,g2]) (by simp[go_sem,g7]) (by simp[go_sem])).mono ?_
  rintro x e s3 ⟨rfl,x3⟩
  simp[go_sem]
 ·obtain⟨k,hk⟩:∃k,k=min l.length 60:=⟨_,rfl⟩
  have hmin:(if(60:Int)<(l.length:Int)then 60 else(l.length:Int))=(k:Int):=by rw[hk];split <;> omega
  have hle:l.length≤full.length:=by
   have:=congrArg List.length h3
   rw[List.length_take]at this;omega
  have hk2:(l.take k).length=k:=by rw[List.length_take];omega
  have hv2:InL s1.h (.slice n 0 k .unk) (l.take k):= .inr ⟨n,full,by rw[hk2],x1.get hwf h2,by rw[hk2];conv=>lhs;rw[h3];rw[List.take_take,Nat.min_eq_left (by omega)]⟩
  have hsub:asubL 1 n 0 l.length .unk none (some (.int .i64 (k:Int))) none=some (.slice n 0 k .unk):=by
   simp only[asubL]
   rw[abounds_hi (by omega) (show (k:Int)≤(topOf l.length .unk:Nat)by show (k:Int)≤(l.length:Nat);omega)]
   simp[subCap]
  simp[go_sem,hmin,hsub]
  refine(nexts_l0 (st0:=st) (l:=l.take k) (v:= .slice n 0 k .unk) (by omega) (a0:= .str src) (a2:= .int .i64 i0) k 0 [] _ s1 (by omega) (by simp) x1 hv2 (by simp[go_sem]) (by simp[go_sem]) (by simp[go_sem]) (by simp[go_sem]) (by simp[go_sem,hk2]) (by simp[go_sem])).mono ?_
  rintro x e s2 ⟨rfl,x2,g0,g2,S,g7,hS⟩
  simp[go_sem,g0,g2,g7,hqm,hqs]
  refine(tail _ s2 S x2 hS (by simp[go_sem,g2]) (by simp[go_sem,g7]) (by simp[go_sem])).mono ?_
  rintro x e s3 ⟨rfl,x3⟩
  simp[go_sem]
end Go.Ev

/- A table of the library beside what the arguments named. -/
namespace Go.Ev
open Go Go.RowKit Go.ChangeShapes Go.WideShapes Go.Deep Go.Joins
set_option linter.unusedVariables false
set_option linter.unusedSimpArgs false
theorem sr_add {X:Cx} {w:World} {N:Nu} {st:St} {o:AObj} {a:Addr} (h:SR chkD X N st w) (how:∀b,¬Own N st.h b) (ho:o.own=false) (hobj:ObjR chkD X (N.add st.nx a 0) w st.nx o):
  SR chkD X (N.add st.nx a 0) ⟨(st.nx,o)::st.h,st.nx+1⟩ w∧(∀b,¬Own (N.add st.nx a 0) ((st.nx,o)::st.h) b)∧N.Le (N.add st.nx a 0):=by
 have hle:N.Le (N.add st.nx a 0):=Nu.le_add (h.fresh _ (Nat.le_refl _))
 have hold:∀m,m≠st.nx→(N.add st.nx a 0).ρ m=N.ρ m:=fun m hm=>by simp[Nu.add,hm]
 have hown:∀b,¬Own (N.add st.nx a 0) ((st.nx,o)::st.h) b:=by
  rintro b ⟨n,p,x,h1,h2,h3,h4⟩
  by_cases e:n=st.nx
  ·subst e
   rw[hget_cons,if_pos rfl]at h1
   injection h1 with h1
   subst h1
   rw[ho]at h2
   cases h2
  ·rw[hget_cons,if_neg (fun x=>e x.symm)]at h1
   exact how b ⟨n,p,x,h1,h2,by rw[←hold n e];exact h3,h4⟩
 refine⟨⟨⟨?_,?_⟩,?_⟩,hown,hle⟩
 ·intro n p h1
  by_cases e:n=st.nx
  ·subst e
   rw[hget_cons,if_pos rfl]at h1
   injection h1 with h1
   subst h1
   exact hobj
  ·rw[hget_cons,if_neg (fun x=>e x.symm)]at h1
   exact ObjR.keep hle (Nat.le_refl _) (fun _ _=>rfl) (h.hr.objs n p h1)
 ·intro n m o1 p1 x y h1 h2 h3 h4 h5 h6
  exact absurd ⟨n,o1,x,h1,h3,h4,rfl⟩ (hown x.block)
 ·intro n hn
  rw[hold n (by simp only at hn;omega)]
  exact h.fresh n (by simp only at hn;omega)
theorem objR_pow {X:Cx} {w:World} {N:Nu} {n k:Nat} {name:String} (hname:X.P.globalNamed name=some (X.γ k)) (h:Lib.TabIs X.P w name .u64 Lib.pow10Tab):ObjR chkD X (N.add n ⟨X.γ k,0,none⟩ 0) w n (.glob k powAV):=by
 unfold Lib.TabIs World.var? at h
 rw[hname]at h
 simp only[Option.bind_some]at h
 split at h
 ·rename_i cs t fz hc
  refine⟨cs,t,fz,by simp[Nu.add],hc,?_⟩
  injection h with h
  rw[h]
  exact vrs_ints _
 ·cases h
theorem wf_i64 {n:Int} (h:(Lit.int .i64 n).wf=true): -9223372036854775808≤n∧n≤9223372036854775807:=by
 simp[Lit.wf,IntKind.min,IntKind.max,IntKind.signed,IntKind.bits]at h
 omega
theorem sr_pow {X:Cx} {w:World} {N:Nu} {st:St} {k:Nat} {name:String} (hname:X.P.globalNamed name=some (X.γ k)) (h:Lib.TabIs X.P w name .u64 Lib.pow10Tab) (hr:SR chkD X N st w) (how:∀b,¬Own N st.h b):
  ∃N':Nu,SR chkD X N' ⟨(st.nx,.glob k powAV)::st.h,st.nx+1⟩ w∧(∀b,¬Own N' ((st.nx,.glob k powAV)::st.h) b)∧N.Le N':=
 ⟨_,sr_add hr how rfl (objR_pow hname h)⟩
theorem wf_add {st:St} {o:AObj} (h:st.Wf) (hp:0<st.nx):St.Wf ⟨(st.nx,o)::st.h,st.nx+1⟩:=(Ext.new h o).wf
end Go.Ev
