/- Unquote told. -/
import Derived.Test.YthckfhllgpfidaaGreatDoorP05
import Derived.Test.YthckfhllgpfidaaGreatDoorP03
import Derived.Lib.SmallJoins
import Derived.Deep.Slices
import Derived.OpenShut
import Derived.Lib.IndexLaws
set_option linter.unusedSimpArgs false
set_option linter.unusedVariables false
set_option linter.unusedSectionVars false
namespace Go.Ev
open Go
variable {T : Tab} {st : St}
theorem Zm2:∀(k n:Nat) (r:List UInt8),(R1 k n r).2≤r.length
 | 0,_,_=>by simp[R1]
 | k+1,n,[]=>by simp[R1]
 | k+1,n,c::r=>by
   simp only[R1]
   split
   ·have:=Zm2 k (8*n+(c.toNat - 48)) r
    simp only[List.length_cons];omega
   ·simp
theorem Ou (c:UInt8) (r:List UInt8):Mh c r≤r.length:=by
 unfold Mh
 split
 ·rename_i h
  cases r with
  | nil=>simp at h
  | cons=>simp
 ·omega
theorem Zpz {r o:List UInt8} {n:Nat} (h:esc r=some (o,n)):1≤n∧n≤r.length∧o.length≤n:=by
 cases r with
 | nil=>cases h
 | cons c r=>
   simp only[esc,Option.some.injEq]at h
   have h1:=Ou c r
   have h2:=Zm2 2 (c.toNat - 48) r
   split at h
   ·injection h with a b;subst a;subst b;simp
   ·split at h
    ·injection h with a b;subst a;subst b;simp;omega
    ·split at h
     ·injection h with a b;subst a;subst b;simp;omega
     ·injection h with a b;subst a;subst b;simp
theorem I3:∀{f d:Nat} {r out o l:List UInt8},unq f d r out=some (o,l)→l.length+1≤r.length
 | 0,_,_,_,_,_,h=>by cases h
 | f+1,d,[],_,_,_,h=>by cases h
 | f+1,d,c::r,out,o,l,h=>by
   simp only[unq]at h
   split at h
   ·split at h
    ·cases h
    ·have:=I3 h
     simp only[List.length_drop,List.length_cons]at this⊢
     omega
   ·split at h
    ·have:=I3 h
     simp only[List.length_cons]at this⊢;omega
    ·split at h
     ·split at h
      ·injection h with h;injection h with h1 h2;subst h2;simp
      ·have:=I3 h
       simp only[List.length_cons]at this⊢;omega
     ·split at h
      ·have:=I3 h
       simp only[List.length_drop,List.length_cons]at this⊢;omega
      ·have:=I3 h
       simp only[List.length_cons]at this⊢;omega
theorem Ztq (H:B.Nw T) {st0:St} {q:Nat} {s:List UInt8} (hs:s.length<1000000000000):∀(f d k:Nat) (out:List UInt8) (e:Env) (st1:St),s.length+1≤k+f→k≤s.length→1≤d→d≤k+1→out.length≤k→Ext st0 st1→QAt st0 st1 q s k out d→Zb e 0= .ptr q 0→
  Res (run T (.loop B.Xa) e st1) fun x e' s'=>Ext st0 s'∧match unq f d (s.drop k) out with
   | none=>x= .ret∧Zb e' 2= .bool false
   | some (o,r)=>x= .exit 0∧QAt st0 s' q s (s.length - r.length) o 0:=by
 intro f
 induction f with
 | zero=>intro d k out e st1 h1 h2;omega
 | succ f ih=>
   intro d k out e st1 hf hk hd1 hdk ho hx b g0
   obtain⟨b1,w,b2,b4,b5⟩:=id b
   have r3:Zo st1.h q 3=some (.int .i64 d):=by simp[Zo,b2]
   have hd0:(0:Int)<d:=by omega
   have hd0':0<d:=by omega
   rw[Zn]
   simp[B.Xa,go_sem,g0,RO.run,r3,hd0,hd0']
   refine(Zj4 H.Jr hx hs hk b).mono ?_
   rintro v1 s1 ⟨x1,⟨hc,rfl,q1⟩ | ⟨c,hc,rfl,q1⟩⟩
   ·have hd:s.drop k=[]:=by rw[List.drop_eq_nil_iff];exact List.getElem?_eq_none_iff.1 hc
    simp[go_sem,hd,unq,x1]
   ·have hkl:k<s.length:=by
     rcases Nat.lt_or_ge k s.length with h | h
     ·exact h
     ·rw[List.getElem?_eq_none h]at hc;cases hc
    obtain⟨c',hc',hd⟩:=Z9 hkl
    rw[hc]at hc';cases hc'
    by_cases h92:c=92
    ·subst h92
     simp[go_sem]
     refine(Zst H.V1 x1 hs (by omega) (by omega) q1).mono ?_
     rintro v2 s2 ⟨x2,hv2⟩
     cases hes:esc (s.drop (k+1))with
     | none=>
       rw[hes]at hv2
       subst hv2
       simp[go_sem,hd,unq,hes,x2]
     | some p=>
       obtain⟨o,n⟩:=p
       rw[hes]at hv2
       obtain⟨rfl,q2⟩:=hv2
       obtain⟨u1,u2,u3⟩:=Zpz hes
       simp only[List.length_drop]at u2
       simp[go_sem]
       refine(ih d (k+1+n) (out++o) _ s2 (by omega) (by omega) hd1 (by omega) (by simp;omega) x2 q2 (by simp[go_sem])).mono ?_
       rintro x e' s' ⟨y1,y2⟩
       refine⟨y1,?_⟩
       rw[hd]
       simpa [unq,hes,List.drop_drop] using y2
    ·have n1:¬(c.toNat:Int)=92:=Uj h92 rfl
     have m1:¬c.toNat=92:=by omega
     obtain⟨p1,u,p2,p4,p5⟩:=id q1
     have r3':Zo s1.h q 3=some (.int .i64 d):=by simp[Zo,p2]
     have step:∀(d':Nat) (c':UInt8) (k':Nat) (s2:St) (e':Env) (st2:St),unq (f+1) d (s.drop k) out=unq f d' (s.drop k') (out++[c'])→k+1≤k'→k'≤s.length→1≤d'→d'≤k+2→Ext st0 st2→QAt st0 st2 q s k' (out++[c']) d'→Zb e' 0= .ptr q 0→
       Res (run T (.loop B.Xa) e' st2) fun x e' s'=>Ext st0 s'∧match unq (f+1) d (s.drop k) out with
        | none=>x= .ret∧Zb e' 2= .bool false
        | some (o,r)=>x= .exit 0∧QAt st0 s' q s (s.length - r.length) o 0:=by
      intro d' c' k' s2 e' st2 he h1 h2 h3 h3' h4 h5 h6
      rw[he]
      exact ih d' k' (out++[c']) e' st2 (by omega) h2 h3 (by omega) (by simp;omega) h4 h5 h6
     by_cases h40:c=40
     ·subst h40
      have e5:IntKind.i64.wrap ((d:Int)+1)=((d+1:Nat):Int):=Zf (by omega) (by omega)
      have hw3:Z5 s1.h q 3 [.int .i64 ((d+1:Nat):Int)]=some (Qi s1.h q (.cells 164 false [.str s,.int .i64 (k+1:Nat),u,.int .i64 (d+1:Nat)])):=Y8 p2 rfl (by simp)
      obtain⟨y1,y2⟩:=QAt.put (k':=k+1) (d':=((d+1:Nat):Int)) x1 p1 p2 p4 p5
      obtain⟨z,z1,z2⟩:=y2.push y1 (by omega) 40
      have hun:unq (f+1) d (s.drop k) out=unq f (d+1) (s.drop (k+1)) (out++[40]):=by rw[hd];simp[unq]
      obtain⟨D,hD⟩:∃D,D=d+1:=⟨_,rfl⟩
      obtain⟨k2,hk2⟩:∃k2,k2=k+1:=⟨_,rfl⟩
      rw[←hD]at e5 hw3 y1 y2 z1 z2 hun
      rw[←hk2]at hw3 y1 y2 z1 z2 hun
      generalize hU:unq (f+1) d (s.drop k) out=U at step⊢
      simp[go_sem,RO.run,WO.run,NO.run,r3',e5,hw3,z1,Y3]
      refine z2.mono ?_
      rintro v4 s4 ⟨a4,h',w4,x4,q4⟩
      simp[go_sem,WO.run,a4,w4]
      exact step D 40 k2 s1 _ _ (hU.symm.trans hun) (by omega) (by omega) (by omega) (by omega) x4 q4 (by simp[go_sem])
     have n2:¬(c.toNat:Int)=40:=Uj h40 rfl
     have m2:¬c.toNat=40:=by omega
     by_cases h41:c=41
     ·subst h41
      have e5:IntKind.i64.wrap ((d:Int) - 1)=((d - 1:Nat):Int):=by rw[Zf (by omega) (by omega)];omega
      have hw3:Z5 s1.h q 3 [.int .i64 ((d - 1:Nat):Int)]=some (Qi s1.h q (.cells 164 false [.str s,.int .i64 (k+1:Nat),u,.int .i64 (d - 1:Nat)])):=Y8 p2 rfl (by simp)
      obtain⟨y1,y2⟩:=QAt.put (k':=k+1) (d':=((d - 1:Nat):Int)) x1 p1 p2 p4 p5
      have r3'':Zo (Qi s1.h q (.cells 164 false [.str s,.int .i64 (k+1:Nat),u,.int .i64 (d - 1:Nat)])) q 3=some (.int .i64 (d - 1:Nat)):=by simp[Zo,Zc p2]
      obtain⟨z,z1,z2⟩:=y2.push y1 (by omega) 41
      by_cases hdd:d=1
      ·subst hdd
       have hd0:Zb e 0= .ptr q 0:=g0
       have r0:Zo (Qi s1.h q (.cells 164 false [.str s,.int .i64 (k+1:Nat),u,.int .i64 (1 - 1:Nat)])) q 3=some (.int .i64 0):=r3''
       have hun:unq (f+1) 1 (s.drop k) out=some (out,s.drop (k+1)):=by rw[hd];simp[unq]
       have hlen:s.length - (s.drop (k+1)).length=k+1:=by rw[List.length_drop];omega
       rw[hun]
       simp only[hlen]
       have hc0:((1 - 1:Nat):Int)=0:=rfl
       obtain⟨k2,hk2⟩:∃k2,k2=k+1:=⟨_,rfl⟩
       rw[←hk2]at hw3 y1 y2 r0⊢
       rw[hc0]at hw3 y1 y2 r0 e5
       have r3s:Zo s1.h q 3=some (.int .i64 1):=r3'
       have e50:IntKind.i64.wrap 0=0:=rfl
       simp[go_sem,RO.run,WO.run,NO.run,r3s,e5,e50,hw3,r0,Y3]
       rw[Zn]
       simp[B.Xa,go_sem,RO.run,r0]
       exact⟨y1,y2⟩
      ·have hun:unq (f+1) d (s.drop k) out=unq f (d - 1) (s.drop (k+1)) (out++[41]):=by rw[hd];simp[unq,hdd]
       obtain⟨D,hD⟩:∃D,D=d - 1:=⟨_,rfl⟩
       obtain⟨k2,hk2⟩:∃k2,k2=k+1:=⟨_,rfl⟩
       rw[←hD]at e5 hw3 y1 y2 z1 z2 hun r3''
       rw[←hk2]at hw3 y1 y2 z1 z2 hun r3''
       have hD0:¬(D:Int)=0:=by omega
       have hD0':¬D=0:=by omega
       generalize hU:unq (f+1) d (s.drop k) out=U at step⊢
       simp[go_sem,RO.run,WO.run,NO.run,r3',e5,hw3,r3'',hD0,hD0',z1,Y3]
       refine z2.mono ?_
       rintro v4 s4 ⟨a4,h',w4,x4,q4⟩
       simp[go_sem,WO.run,a4,w4]
       exact step D 41 k2 s1 _ _ (hU.symm.trans hun) (by omega) (by omega) (by omega) (by omega) x4 q4 (by simp[go_sem])
     have n3:¬(c.toNat:Int)=41:=Uj h41 rfl
     have m3:¬c.toNat=41:=by omega
     by_cases hln:c=10∨c=13
     ·have hun:unq (f+1) d (s.drop k) out=unq f d (s.drop (k+1+Mh c (s.drop (k+1)))) (out++[10]):=by rw[hd];simp[unq,h92,h40,h41,hln,List.drop_drop]
      have hll:=Zqu H.Jq x1 hs (by omega) c q1
      have hlu:=Ou c (s.drop (k+1))
      rw[List.length_drop]at hlu
      generalize hU:unq (f+1) d (s.drop k) out=U at step⊢
      have hcn:(c.toNat:Int)=10∨(c.toNat:Int)=13:=by rcases hln with rfl | rfl <;> simp
      obtain⟨n,hn⟩:∃n:Int,n=c.toNat:=⟨_,rfl⟩
      generalize Mh c (s.drop (k+1))=L at hll hun hlu
      have tail:∀(s2:St),Ext st0 s2→QAt st0 s2 q s (k+1+L) out d→∃v,Zo s2.h q 2=some v∧Jg (Ym 5 1 1 ⟨(s2.nx,.cells 5 false [.int .u8 10])::s2.h,s2.nx+1⟩ v (.slice s2.nx 0 1 (.known 1))) fun v' s'=>Kx v'=[v']∧∃h',Z5 s'.h q 2 [v']=some h'∧Ext st0 ⟨h',s'.nx⟩∧QAt st0 ⟨h',s'.nx⟩ q s (k+1+L) (out++[10]) d:=fun s2 x2 q2=>q2.push x2 (by omega) 10
      rw[←hn]at hcn hll
      rcases hcn with rfl | rfl
      ·simp[go_sem,←hn]
       refine hll.mono ?_
       rintro v2 s2 ⟨x2,q2⟩
       obtain⟨z,z1,z2⟩:=tail s2 x2 q2
       simp[go_sem,RO.run,WO.run,NO.run,z1,Y3]
       refine z2.mono ?_
       rintro v4 s4 ⟨a4,h',w4,x4,q4⟩
       simp[go_sem,WO.run,a4,w4]
       exact step d 10 _ s1 _ _ (hU.symm.trans hun) (by omega) (by omega) (by omega) (by omega) x4 q4 (by simp[go_sem])
      ·simp[go_sem,←hn]
       refine hll.mono ?_
       rintro v2 s2 ⟨x2,q2⟩
       obtain⟨z,z1,z2⟩:=tail s2 x2 q2
       simp[go_sem,RO.run,WO.run,NO.run,z1,Y3]
       refine z2.mono ?_
       rintro v4 s4 ⟨a4,h',w4,x4,q4⟩
       simp[go_sem,WO.run,a4,w4]
       exact step d 10 _ s1 _ _ (hU.symm.trans hun) (by omega) (by omega) (by omega) (by omega) x4 q4 (by simp[go_sem])
     ·have hun:unq (f+1) d (s.drop k) out=unq f d (s.drop (k+1)) (out++[c]):=by rw[hd];simp[unq,h92,h40,h41,hln]
      simp only[not_or]at hln
      have n4:¬(c.toNat:Int)=10:=Uj hln.1 rfl
      have n5:¬(c.toNat:Int)=13:=Uj hln.2 rfl
      have m4:¬c.toNat=10:=by omega
      have m5:¬c.toNat=13:=by omega
      obtain⟨z,z1,z2⟩:=q1.push x1 (by omega) c
      generalize hU:unq (f+1) d (s.drop k) out=U at step⊢
      simp[go_sem,RO.run,WO.run,NO.run,n1,n2,n3,n4,n5,m1,m2,m3,m4,m5,z1,Y3]
      refine z2.mono ?_
      rintro v4 s4 ⟨a4,h',w4,x4,q4⟩
      simp[go_sem,WO.run,a4,w4]
      exact step d c _ s1 _ _ (hU.symm.trans hun) (by omega) (by omega) (by omega) (by omega) x4 q4 (by simp[go_sem])
theorem Zaac (H:B.Nw T) {st0:St} (hx:Ext st0 st) {q k:Nat} {s out:List UInt8} {d:Int} (hs:s.length<1000000000000) (hk:k≤s.length) (ho:out.length≤k) (b:QAt st0 st q s k out d) {f:Nat} (hf:s.length+1≤k+f):
  Jg (call T (.fn 87 [] []) [.ptr q 0] st) fun v s'=>Ext st0 s'∧match unq f 1 (s.drop k) out with
   | none=>v= .bool false
   | some (o,r)=>v= .bool true∧QAt st0 s' q s (s.length - r.length) o 0:=by
 refine Q3 H.e H.f rfl ?_
 obtain⟨b1,w,b2,b4,b5⟩:=id b
 have hw3:Z5 st.h q 3 [.int .i64 1]=some (Qi st.h q (.cells 164 false [.str s,.int .i64 k,w,.int .i64 1])):=Y8 b2 rfl (by simp)
 obtain⟨y1,y2⟩:=QAt.put (k':=k) (d':=((1:Nat):Int)) hx b1 b2 b4 b5
 simp[B.La,go_sem,RO.run,WO.run,hw3]
 refine(Ztq H hs f 1 k out _ _ hf hk (by omega) (by omega) ho y1 y2 (by simp[go_sem])).mono ?_
 generalize unq f 1 (s.drop k) out=U
 rintro x e s' ⟨x1,h⟩
 cases U with
 | none=>
   obtain⟨rfl,g⟩:=h
   simp[go_sem,g]
   exact x1.Qr hx.nx
 | some p=>
   obtain⟨o,r⟩:=p
   obtain⟨rfl,q2⟩:=h
   simp[go_sem]
   exact⟨x1.Qr hx.nx,q2.Zp x1.wf⟩
def J1 (s:List UInt8):List UInt8×Nat×Int:=
 match s with
 | c::r=>if c=40 then match unq s.length 1 r []with
    | none=>([],0,5)
    | some (o,l)=>if 1000<o.length then([],0,26)else(o,s.length - l.length,0)
   else([],0,5)
 | []=>([],0,5)
def Rx (t:List UInt8×Nat×Int):AV:= .tuple [.str t.1,.int .i64 (t.2.1:Int),.int .i64 t.2.2]
theorem Zmg (H:B.Fv T) (hwf:st.Wf) {s:List UInt8} (hs:s.length<1000000000000):Qa T st (.fn 69 [] []) [.str s] (Rx (J1 s)):=by
 refine Zs H.e H.f rfl ?_
 have hx:=Ext.new hwf (.cells 164 false [.str s,.int .i64 0,.Zk,.int .i64 0])
 have hb:QAt st ⟨(st.nx,.cells 164 false [.str s,.int .i64 0,.Zk,.int .i64 0])::st.h,st.nx+1⟩ st.nx s 0 [] 0:=⟨Nat.le_refl _,.Zk,by simp[Ze],.nil _ _,by simp[AV.nms]⟩
 simp[B.G5,go_sem,NO.run]
 refine(Zj4 H.Jr hx hs (Nat.zero_le _) hb).mono ?_
 rintro v1 s1 ⟨x1,⟨hc,rfl,q1⟩ | ⟨c,hc,rfl,q1⟩⟩
 ·have:s=[]:=by
   cases s with
   | nil=>rfl
   | cons=>simp at hc
  subst this
  simp[go_sem,Rx,J1,x1]
 ·obtain⟨r,rfl⟩:∃r,s=c::r:=by
   cases s with
   | nil=>simp at hc
   | cons a r=>simp at hc;exact⟨r,by rw[hc]⟩
  by_cases h40:c=40
  ·subst h40
   have hr:=Zaac H.La x1 hs (by simp) (by simp) q1 (f:=r.length+1) (by simp;omega)
   have ht:J1 (40::r)=match unq (r.length+1) 1 r []with
    | none=>([],0,5)
    | some (o,l)=>if 1000<o.length then([],0,26)else(o,(40::r).length - l.length,0):=by simp[J1]
   rw[ht]
   rw[show (40::r:List UInt8).drop (0+1)=r from rfl]at hr
   simp[go_sem]
   refine hr.mono ?_
   cases hu:unq (r.length+1) 1 r []with
   | none=>
     rintro v2 s2 ⟨x2,rfl⟩
     simp[go_sem,Rx,x2]
   | some p=>
     obtain⟨o,l⟩:=p
     rintro v2 s2 ⟨x2,rfl,q2⟩
     obtain⟨b1,w,b2,b4,b5⟩:=id q2
     have r2:Zo s2.h st.nx 2=some w:=by simp[Zo,b2]
     have r1:Zo s2.h st.nx 1=some (.int .i64 (((40::r).length - l.length:Nat):Int)):=by simp[Zo,b2]
     have hsrc:=b4.1.rd.src
     have hu8:=Kb o
     generalize hN:(40::r).length - l.length=N at r1⊢
     have hN':r.length+1 - l.length=N:=hN
     obtain⟨⟨m,hsl⟩,b6,b7⟩:=b4
     have xa:=fun n=>x2.trans (Ext.aside x2.wf n)
     rcases hsl with ⟨k1,k2,k3⟩ | ⟨k1,k2,k3⟩ | ⟨ty',k1,k2,k3⟩
     ·subst k1
      have:o=[]:=List.length_eq_zero_iff.1 k3
      subst this
      simp[go_sem,RO.run,r2,r1,hsrc,hu8,Rx,xa,hN']
     ·subst k1
      have hrd:Z1 s2.h m 0 o.length=some (u8s o):=by
       simp[Z1,k2,Re]
       exact List.take_of_length_le (by rw[Re];exact Nat.le_refl _)
      by_cases hlong:1000<o.length
      ·simp[go_sem,RO.run,r2,r1,hsrc,hu8,Rx,xa,hlong,show (1000:Int)<o.length by omega,x2]
      ·simp[go_sem,RO.run,r2,r1,hrd,hu8,Rx,xa,hN',hlong,show¬(1000:Int)<o.length by omega]
     ·exact absurd k1 (b7 _ _ _ _)
  ·have n1:¬(c.toNat:Int)=40:=Uj h40 rfl
   have m1:¬c.toNat=40:=by omega
   simp[go_sem,n1,m1,Rx,J1,h40,x1]
end Go.Ev

/- Valid tokens; Check. -/
namespace Go.Ev
open Go
variable {T : Tab} {st : St}
theorem Lh {a b a' b':Int} {c c':List UInt8}:Jz [.i .i64,.i .i64,.s] [.int .i64 a,.int .i64 b,.str c] [.int .i64 a',.int .i64 b',.str c']=some (decide (a=a') && (decide (b=b') && (c == c'))):=by
 simp only[Jz,Ks,Jb]
 by_cases h1:a=a' <;> by_cases h2:b=b' <;> cases h3:(c == c') <;> simp[h1,h2]
theorem Zqe (H:B.Ct T) (hwf:st.Wf) {n:Int}:Qa T st (.fn 110 [] []) [.int .i64 n] (.bool (decide (-2147483648≤n) && decide (n≤2147483648))):=by
 refine Zs H.e H.f rfl ?_
 by_cases h: -2147483648≤n
 ·simp[B.Gj,go_sem,h,Ext.refl hwf]
 ·simp[B.Gj,go_sem,h,Ext.refl hwf]
def Mv (k:Int) (t:List UInt8):Bool:=decide (t.length≤100) && Uc t && (decide (k≠3) || (!(t == []) && decide ((Zde t).2.2=5)))
theorem Au (H:B.So T) (hwf:st.Wf) {k n:Int} {t:List UInt8} (hs:t.length<4000000000000000000):Qa T st (.fn 111 [] []) [.agg [.int .i64 k,.int .i64 n,.str t]] (.bool (Mv k t)):=by
 refine Zs H.e H.f rfl ?_
 have hx:=Ext.new hwf (.cells 134 true [.int .i64 k,.int .i64 n,.str t])
 have g:Zh ((st.nx,Z7.cells 134 true [.int .i64 k,.int .i64 n,.str t])::st.h) st.nx=some (.cells 134 true [.int .i64 k,.int .i64 n,.str t]):=by simp[Ze]
 by_cases hl:100<t.length
 ·have hn:Mv k t=false:=by simp[Mv];omega
  simp[B.Ra,go_sem,NO.run,WO.run,RO.run,Zo,Ze,hl,show (100:Int)<t.length by omega,hn,hx]
 ·simp[B.Ra,go_sem,NO.run,WO.run,RO.run,Zo,Ze,hl,show¬(100:Int)<t.length by omega]
  refine(Iw H.Ll hx.wf (s:=t) (by omega)).use fun s1 hs1=> ?_
  have e1:=hx.trans hs1
  have g1:=hs1.get hx.wf g
  cases hr:Uc t with
  | false=>simp[go_sem,hr,Mv,e1]
  | true=>
    by_cases h3:k=3
    ·subst h3
     simp[go_sem,RO.run,Zo,g1]
     refine(Ze0 H.Ni e1.wf hs).use fun s2 hs2=> ?_
     have e2:=e1.trans hs2
     have g2:=hs2.get e1.wf g1
     have hnm:Mv 3 t=(!(t == []) && decide ((Zde t).2.2=5)):=by simp[Mv,hr];omega
     rw[hnm]
     obtain⟨u,hu⟩:∃u,u=Zde t:=⟨_,rfl⟩
     rw[←hu]
     have x3:=e2.trans (Ext.new e2.wf (.cells 134 true [.int .i64 u.1,.int .i64 u.2.1,.str []]))
     have hne:¬s2.nx=st.nx:=by have:=e2.wf.lt _ _ g2;omega
     by_cases hz:t=[]
     ·subst hz
      simp[go_sem,toA,Yj,Vp,NO.run,WO.run,RO.run,Vo,Zo,Ze,hne,g2,Jb,x3]
     ·have hq:t.isEmpty=false:=by cases t with | nil=>exact absurd rfl hz | cons=>rfl
      simp[go_sem,toA,Yj,Vp,NO.run,WO.run,RO.run,Vo,Zo,Ze,hne,g2,Jb,hq,x3]
    ·have hnm:Mv k t=true:=by simp[Mv,hr,h3];omega
     simp[go_sem,RO.run,Zo,g1,h3,hnm,e1]
def Nj (k n:Int) (t:List UInt8):Bool:=decide (k=3) && (decide (n=0) && ((t == [91]) || (t == [93]) || (t == [60,60]) || (t == [62,62])))
def Qg (k n:Int) (t:List UInt8):Bool:=
 if k=1 then decide (-2147483648≤n) && decide (n≤2147483647) && (t == [])
 else if k=2 then decide (-2147483648≤n) && decide (n≤2147483648) && (t == [])
 else if k=3∨k=4∨k=5 then Nj k n t || (decide (n=0) && Mv k t)
 else if k=6 then decide (n=0) && decide (t.length≤1000)
 else(decide (k=7) || decide (k=8)) && (decide (n=0) && (t == []))
theorem Ztn {m:Nat} {k n:Int} {t:List UInt8} {e:Env} (hrd:Z1 st.h m 0 3=some [.int .i64 k,.int .i64 n,.str t]) (g1:Zb e 1= .ptr m 0) (g36:Zb e 36= .agg [.str [91],.str [93],.str [60,60],.str [62,62]]) (g37:Zb e 37= .int .i64 0):
  Res (run T (.loop B.Qy) e st) (fun x e s=>s=st∧((x= .exit 1∧Zb e 1= .ptr m 0∧Nj k n t=false)∨(x= .ret∧Zb e 2= .bool true∧Nj k n t=true))):=by
 have w0:IntKind.i64.wrap 1=1:=rfl
 have w1:IntKind.i64.wrap 2=2:=rfl
 have w2:IntKind.i64.wrap 3=3:=rfl
 have w3:IntKind.i64.wrap 4=4:=rfl
 by_cases hk:k=3
 ·by_cases hn:n=0
  ·subst hk;subst hn
   rw[Zn]
   by_cases h0:t=[91]
   ·simp[B.Qy,go_sem,RO.run,hrd,Lh,g1,g36,g37,h0,Nj]
   simp[B.Qy,go_sem,RO.run,hrd,Lh,g1,g36,g37,h0]
   rw[Zn]
   by_cases h1:t=[93]
   ·simp[B.Qy,go_sem,RO.run,hrd,Lh,w0,h1,Nj]
   simp[B.Qy,go_sem,RO.run,hrd,Lh,w0,h1]
   rw[Zn]
   by_cases h2:t=[60,60]
   ·simp[B.Qy,go_sem,RO.run,hrd,Lh,w1,h2,Nj]
   simp[B.Qy,go_sem,RO.run,hrd,Lh,w1,h2]
   rw[Zn]
   by_cases h3:t=[62,62]
   ·simp[B.Qy,go_sem,RO.run,hrd,Lh,w2,h3,Nj]
   simp[B.Qy,go_sem,RO.run,hrd,Lh,w2,h3]
   rw[Zn]
   simp[B.Qy,go_sem,RO.run,w3,Nj,h0,h1,h2,h3]
  ·have hm:Nj k n t=false:=by simp[Nj,hn]
   rw[hm]
   rw[Zn]
   simp[B.Qy,go_sem,RO.run,hrd,Lh,g1,g36,g37,hn]
   rw[Zn]
   simp[B.Qy,go_sem,RO.run,hrd,Lh,w0,hn]
   rw[Zn]
   simp[B.Qy,go_sem,RO.run,hrd,Lh,w1,hn]
   rw[Zn]
   simp[B.Qy,go_sem,RO.run,hrd,Lh,w2,hn]
   rw[Zn]
   simp[B.Qy,go_sem,RO.run,w3]
 ·have hm:Nj k n t=false:=by simp[Nj,hk]
  rw[hm]
  rw[Zn]
  simp[B.Qy,go_sem,RO.run,hrd,Lh,g1,g36,g37,hk]
  rw[Zn]
  simp[B.Qy,go_sem,RO.run,hrd,Lh,w0,hk]
  rw[Zn]
  simp[B.Qy,go_sem,RO.run,hrd,Lh,w1,hk]
  rw[Zn]
  simp[B.Qy,go_sem,RO.run,hrd,Lh,w2,hk]
  rw[Zn]
  simp[B.Qy,go_sem,RO.run,w3]
theorem Zrl (H:B.Sp T) (hwf:st.Wf) {k n:Int} {t:List UInt8} (hs:t.length<4000000000000000000):Qa T st (.fn 93 [] []) [.agg [.int .i64 k,.int .i64 n,.str t]] (.bool (Qg k n t)):=by
 refine Zs H.e H.f rfl ?_
 have hx:=Ext.new hwf (.cells 134 true [.int .i64 k,.int .i64 n,.str t])
 have g:Zh ((st.nx,Z7.cells 134 true [.int .i64 k,.int .i64 n,.str t])::st.h) st.nx=some (.cells 134 true [.int .i64 k,.int .i64 n,.str t]):=by simp[Ze]
 by_cases h1:k=1
 ·subst h1
  by_cases a1: -2147483648≤n
  ·by_cases a2:n≤2147483647
   ·simp[B.Ya,go_sem,NO.run,WO.run,RO.run,Zo,Ze,a1,a2,Qg,Jb,hx]
   ·simp[B.Ya,go_sem,NO.run,WO.run,RO.run,Zo,Ze,a1,a2,Qg,Jb,hx]
  ·simp[B.Ya,go_sem,NO.run,WO.run,RO.run,Zo,Ze,a1,Qg,Jb,hx]
 by_cases h2:k=2
 ·subst h2
  simp[B.Ya,go_sem,NO.run,WO.run,RO.run,Zo,Ze]
  refine(Zqe H.Gj hx.wf).use fun s1 hs1=> ?_
  have e1:=hx.trans hs1
  have g1:=hs1.get hx.wf g
  by_cases a1: -2147483648≤n∧n≤2147483648
  ·simp[go_sem,RO.run,Zo,g1,a1,Qg,Jb,e1]
  ·have:(decide (-2147483648≤n) && decide (n≤2147483648))=false:=by simpa using a1
   simp[go_sem,RO.run,Zo,g1,this,Qg,Jb,e1]
 by_cases h3:k=3∨k=4∨k=5
 ·have hr3:Z1 ((st.nx,Z7.cells 134 true [.int .i64 k,.int .i64 n,.str t])::st.h) st.nx 0 3=some [.int .i64 k,.int .i64 n,.str t]:=K5 ..
  have lp:=fun e a b c=>Ztn (T:=T) (e:=e) (st:=⟨(st.nx,Z7.cells 134 true [.int .i64 k,.int .i64 n,.str t])::st.h,st.nx+1⟩) hr3 a b c
  have hrt:Qg k n t=(Nj k n t || (decide (n=0) && Mv k t)):=by
   unfold Qg
   rw[if_neg (by omega),if_neg (by omega),if_pos h3]
  rw[hrt]
  generalize Nj k n t=BB at lp⊢
  rcases h3 with rfl | rfl | rfl
  ·simp[B.Ya,go_sem,NO.run,WO.run,RO.run,Zo,Ze]
   refine(lp _ (by simp[go_sem]) (by simp[go_sem]) (by simp[go_sem])).mono ?_
   rintro x e' s' ⟨rfl,⟨rfl,k1,k2⟩ | ⟨rfl,k1,k2⟩⟩
   ·by_cases a1:n=0
    ·subst a1
     simp[go_sem,k1,RO.run,Zo,Ze,K5]
     refine(Au H.Ra hx.wf hs).use fun s1 hs1=> ?_
     simp[go_sem,k2,hx.trans hs1]
    ·simp[go_sem,k1,RO.run,Zo,Ze,K5,a1,k2,hx]
   ·simp[go_sem,k1,k2,hx]
  ·simp[B.Ya,go_sem,NO.run,WO.run,RO.run,Zo,Ze]
   refine(lp _ (by simp[go_sem]) (by simp[go_sem]) (by simp[go_sem])).mono ?_
   rintro x e' s' ⟨rfl,⟨rfl,k1,k2⟩ | ⟨rfl,k1,k2⟩⟩
   ·by_cases a1:n=0
    ·subst a1
     simp[go_sem,k1,RO.run,Zo,Ze,K5]
     refine(Au H.Ra hx.wf hs).use fun s1 hs1=> ?_
     simp[go_sem,k2,hx.trans hs1]
    ·simp[go_sem,k1,RO.run,Zo,Ze,K5,a1,k2,hx]
   ·simp[go_sem,k1,k2,hx]
  ·simp[B.Ya,go_sem,NO.run,WO.run,RO.run,Zo,Ze]
   refine(lp _ (by simp[go_sem]) (by simp[go_sem]) (by simp[go_sem])).mono ?_
   rintro x e' s' ⟨rfl,⟨rfl,k1,k2⟩ | ⟨rfl,k1,k2⟩⟩
   ·by_cases a1:n=0
    ·subst a1
     simp[go_sem,k1,RO.run,Zo,Ze,K5]
     refine(Au H.Ra hx.wf hs).use fun s1 hs1=> ?_
     simp[go_sem,k2,hx.trans hs1]
    ·simp[go_sem,k1,RO.run,Zo,Ze,K5,a1,k2,hx]
   ·simp[go_sem,k1,k2,hx]
 simp only[not_or]at h3
 by_cases h6:k=6
 ·subst h6
  by_cases a1:n=0
  ·subst a1
   simp[B.Ya,go_sem,NO.run,WO.run,RO.run,Zo,Ze,Qg,hx]
   omega
  ·simp[B.Ya,go_sem,NO.run,WO.run,RO.run,Zo,Ze,a1,Qg,hx]
 ·by_cases h7:k=7
  ·subst h7
   by_cases hb:n=0∧t=[]
   ·obtain⟨rfl,rfl⟩:=hb
    simp[B.Ya,go_sem,NO.run,WO.run,RO.run,Zo,Ze,Qg,K5,Lh,hx]
   ·have hb1:(decide (n=0) && t.isEmpty)=false:=by simpa using hb
    have hb2:(n=0→¬t=[]):=fun a b=>hb ⟨a,b⟩
    simp[B.Ya,go_sem,NO.run,WO.run,RO.run,Zo,Ze,Qg,K5,Lh,hb1,hx]
  ·simp[B.Ya,go_sem,NO.run,WO.run,RO.run,Zo,Ze,Qg,K5,Lh,h1,h2,h3,h6,h7,hx]
theorem Zgp (H:B.E3 T) (hwf:st.Wf) {k n:Int} {t:List UInt8} (hs:t.length<4000000000000000000):Qa T st (.fn 74 [] []) [.agg [.int .i64 k,.int .i64 n,.str t]] (.int .i64 (if Qg k n t=true then 0 else 130)):=by
 refine Zs H.e H.f rfl ?_
 have hx:=Ext.new hwf (.cells 134 true [.int .i64 k,.int .i64 n,.str t])
 simp[B.N8,go_sem,NO.run,WO.run,RO.run,K5]
 refine(Zrl H.Ya hx.wf hs).use fun s1 hs1=> ?_
 have e1:=hx.trans hs1
 cases hr:Qg k n t <;> simp[go_sem,hr,e1]
end Go.Ev

/- The chapter's examples. -/
namespace Go.Ev
open Go
variable {T : Tab} {st : St}
end Go.Ev

/- LexKnown told. -/
namespace Go.Ev
open Go
variable {T : Tab} {st : St}
def Zaei:List UInt8:=Lib.repeatL [48] 39
theorem zl:Zaei.length=39:=by kernel_rfl
end Go.Ev

/- LexNests told. -/
namespace Go.Ev
open Go
variable {T : Tab} {st : St}
end Go.Ev

/- Octets among the arguments: what they are, and the names of their blocks. -/
namespace Go.Ev
open Go Go.RowKit Go.ChangeShapes Go.WideShapes Go.Deep Go.Joins
def Zg1 (a:Addr):Nu:=⟨fun n=>if n=2 then some a else none,fun _=>0⟩
def I1 (cs:List AV):St:=⟨[(2,.ro cs)],3⟩
theorem Zyk (cs:List AV):(I1 cs).Wf:=⟨(fun n o h=>by
 simp only[I1,Zh]at h⊢
 split at h
 ·rename_i e;omega
 ·cases h),(by simp[I1])⟩
theorem Zwn (n:Nat):St.Wf ⟨[],n⟩:=⟨(fun n o h=>by cases h),(by simp)⟩
theorem Zace {X:Cx} {w:World} {a:Addr} {cs:List AV} {us:Array Value} {t:TypeId} {fz:Nat×Nat} (hb:w.heap[a.block]? =some (.cells us t fz))
  (hc:∀(i:Nat) (x:AV),cs[i]? =some x→∃u,w.cell? ⟨a.block,a.off+i,none⟩=some u∧VR X (Zg1 a) x u):SR H4 X (Zg1 a) (I1 cs) w:=by
 refine⟨⟨?_,?_⟩,?_⟩
 ·intro n o h
  simp only[I1,Zh]at h
  split at h
  ·rename_i e
   subst e
   injection h with h
   subst h
   exact⟨a,by simp[Zg1],⟨us,t,fz,hb⟩,hc⟩
  ·cases h
 ·intro n m o p x y h1 h2 h3
  simp only[I1,Zh]at h1
  split at h1
  ·injection h1 with h1;subst h1;cases h3
  ·cases h1
 ·intro n hn
  simp only[I1]at hn
  simp only[Zg1]
  rw[if_neg (by omega)]
theorem Zz2 {a:Addr} {cs:List AV} (b:Nat):¬Own (Zg1 a) (I1 cs).h b:=fun⟨n,o,x,h1,h2,_⟩=>by
 simp only[I1,Zh]at h1
 split at h1
 ·injection h1 with h1;subst h1;cases h2
 ·cases h1
theorem wf_u8 {n:Int} (h:(Lit.int .u8 n).wf=true):0≤n∧n<256:=by
 simp[Lit.wf,IntKind.min,IntKind.max,IntKind.signed,IntKind.bits]at h
 omega
section
variable {H : Type} {enc : TypeId × Value → H} {P : Program} {w : World} {base : Nat} {spare : Nat → Bool} {held : Bool}
end
end Go.Ev

/- The reference's Unquote: its parts. -/
namespace Go.Ev
open Go
variable {T : Tab} {st : St}
theorem Grow.app {st0 s1:St} (hF:st0.nx≤s1.nx) (hw:s1.Wf) {v x:AV} {l m:List UInt8} (a:Grow st0 s1 v l) (hx:Rd s1.h x 1 m.length (u8s m)) (hl:l.length+m.length<35184372088831):
  Jg (Ym 5 1 1 s1 v x) fun v' s=>Grow st0 s v' (l++m)∧Frm v.nms s1 s:=by
 obtain⟨a1,a2,a3⟩:=a
 have hap:=Sl.append (x:=x) (j:=m.length) (new:=u8s m) (b:=1) (Frm.refl hw v.nms) (fun n h=> .inl h) a1 hx (by simp[u8s,AV.sc]) (by omega) (by omega) (.inr fun n c h=>a3 _ _ _ _ h)
 refine(hap.Zsl (fun _ _ h=>Gw h a3)).mono ?_
 rintro v2 s2 ⟨⟨k1,k2,k3,_⟩,hnk2⟩
 refine⟨⟨by rw[Zdj,List.length_append];exact k1,fun n hn=> ?_,hnk2⟩,k2⟩
 rcases k3 n hn with h | h
 ·exact a2 n h
 ·exact .inr (Nat.le_trans hF h)
def atS:List UInt8→Nat
 | []=>0
 | c::_=>c.toNat
theorem Zdu (H:B.Mf T) (hwf:st.Wf) {s:List UInt8} {i:Nat} (hs:s.length<1000000000000):Qa T st (.fn 88 [] []) [.str s,.int .i64 (i:Int)] (.int .u8 (atS (s.drop i):Nat)):=by
 refine Zs H.e H.f rfl ?_
 by_cases h:i<s.length
 ·obtain⟨c,hc,hd⟩:=Z9 h
  simp[B.Kc,go_sem,show (i:Int)<s.length by omega,hc,hd,atS,Ext.refl hwf]
 ·have hd:s.drop i=[]:=List.drop_eq_nil_iff.2 (by omega)
  simp[B.Kc,go_sem,show¬(i:Int)<s.length by omega,h,hd,atS,Ext.refl hwf]
def Zi9 (r:List UInt8):Nat:=if atS r=13∧atS r.tail=10 then 2 else if atS r=13∨atS r=10 then 1 else 0
theorem Zgt (H:B.Lq T) (hwf:st.Wf) {s:List UInt8} {i:Nat} (hi:i≤1000000000000) (hs:s.length<1000000000000):Qa T st (.fn 90 [] []) [.str s,.int .i64 (i:Int)] (.int .i64 (Zi9 (s.drop i):Nat)):=by
 refine Zs H.e H.f rfl ?_
 have e4:IntKind.i64.wrap ((i:Int)+1)=((i+1:Nat):Int):=Zf (by omega) (by omega)
 have hat1:=fun(st':St) (hw:st'.Wf)=>Zdu (st:=st') H.Kc hw (s:=s) (i:=i) hs
 have hat2:=fun(st':St) (hw:st'.Wf)=>Zdu (st:=st') H.Kc hw (s:=s) (i:=i+1) hs
 have ht:(s.drop i).tail=s.drop (i+1):=by simp
 unfold Zi9
 rw[ht]
 generalize atS (s.drop i)=a at hat1⊢
 generalize atS (s.drop (i+1))=b at hat2⊢
 simp[B.K8,go_sem]
 refine(hat1 _ hwf).use fun s1 x1=> ?_
 by_cases ha:a=13
 ·subst ha
  simp[go_sem,e4]
  refine(hat2 _ x1.wf).use fun s2 x2'=> ?_
  have x2:=x1.trans x2'
  by_cases hb:b=10
  ·subst hb;simp[go_sem,x2]
  ·have hb':¬(b:Int)=10:=by omega
   simp[go_sem,hb,hb']
   refine(hat1 _ x2.wf).use fun s3 x3'=> ?_
   have x3:=x2.trans x3'
   simp[go_sem,x3]
 ·have ha':¬(a:Int)=13:=by omega
  simp[go_sem,ha,ha']
  refine(hat1 _ x1.wf).use fun s2 x2'=> ?_
  have x2:=x1.trans x2'
  simp[go_sem,ha,ha']
  refine(hat1 _ x2.wf).use fun s3 x3'=> ?_
  have x3:=x2.trans x3'
  by_cases hb:a=10
  ·subst hb;simp[go_sem,x3]
  ·have hb':¬(a:Int)=10:=by omega
   simp[go_sem,hb,hb',x3]
def Nn:Nat→List UInt8→Nat
 | 0,_=>0
 | _+1,[]=>0
 | k+1,c::r=>if 48≤c.toNat∧c.toNat≤55 then Nn k r+1 else 0
theorem Zzy (k:Nat) (r:List UInt8):Nn (k+1) r=if 48≤atS r∧atS r≤55 then Nn k r.tail+1 else 0:=by
 cases r with
 | nil=>simp[Nn,atS]
 | cons c r=>rfl
theorem Zlz (H:B.Lr T) {s:List UInt8} {i:Nat} (hs:s.length<1000000000000) (hi:i≤1000000000000) (st0:St):∀(m n:Nat) (e:Env) (st1:St),n+m=3→Ext st0 st1→Zb e 0= .str s→Zb e 1= .int .i64 i→Zb e 5= .int .i64 n→
  Res (run T (.loop B.Xw) e st1) fun x e' s'=>x= .exit 0∧Ext st0 s'∧Zb e' 5= .int .i64 ((n+Nn m (s.drop (i+n)):Nat):Int):=by
 intro m
 induction m with
 | zero=>
   intro n e st1 hn hx g0 g1 g5
   have:n=3:=by omega
   subst this
   rw[Zn]
   simp[B.Xw,go_sem,g0,g1,g5,hx,Nn]
 | succ m ih=>
   intro n e st1 hn hx g0 g1 g5
   have e1:IntKind.i64.wrap ((i:Int)+n)=((i+n:Nat):Int):=by rw[Zf (by omega) (by omega)];omega
   have e4:IntKind.i64.wrap ((n:Int)+1)=((n+1:Nat):Int):=Zf (by omega) (by omega)
   have hat:=fun(st':St) (hw:st'.Wf)=>Zdu (st:=st') H.Kc hw (s:=s) (i:=i+n) hs
   have ht:(s.drop (i+n)).tail=s.drop (i+(n+1)):=by simp[Nat.add_assoc]
   rw[Zzy,ht]
   generalize atS (s.drop (i+n))=a at hat⊢
   have hn3:(n:Int)<3:=by omega
   rw[Zn]
   simp[B.Xw,go_sem,g0,g1,g5,hn3,e1]
   refine(hat _ hx.wf).use fun s1 x1'=> ?_
   have x1:=hx.trans x1'
   by_cases h1:48≤a
   ·simp[go_sem,h1,show (48:Int)≤a by omega,e1]
    refine(hat _ x1.wf).use fun s2 x2'=> ?_
    have x2:=x1.trans x2'
    by_cases h2:a≤55
    ·simp[go_sem,h1,h2,show (a:Int)≤55 by omega]
     refine(ih (n+1) _ s2 (by omega) x2 (by simp[go_sem]) (by simp[go_sem]) (by simp[go_sem,e4])).mono ?_
     rintro x e' s' ⟨a1,a2,a3⟩
     exact⟨a1,a2,by rw[a3];congr 1;omega⟩
    ·simp[go_sem,h1,h2,show¬(a:Int)≤55 by omega,x2]
   ·simp[go_sem,h1,show¬(48:Int)≤a by omega,x1]
theorem Zj6 (H:B.Lr T) (hwf:st.Wf) {s:List UInt8} {i:Nat} (hi:i≤1000000000000) (hs:s.length<1000000000000):Qa T st (.fn 108 [] []) [.str s,.int .i64 (i:Int)] (.int .i64 (Nn 3 (s.drop i):Nat)):=by
 refine Zs H.e H.f rfl ?_
 simp[B.Ux,go_sem]
 refine(Zlz H hs hi st 3 0 _ st (by omega) (.refl hwf) (by simp[go_sem]) (by simp[go_sem]) (by simp[go_sem])).mono ?_
 rintro x e s' ⟨rfl,x2,g⟩
 simp[go_sem,g,x2]
def Zf7 (n:Nat) (l:List UInt8):Nat:=l.foldl (fun v c=>8*v+(c.toNat - 48)) n
theorem Zun:∀(k n:Nat) (r:List UInt8),R1 k n r=(Zf7 n (r.take (Nn k r)),Nn k r)
 | 0,n,r=>by simp[R1,Nn,Zf7]
 | k+1,n,[]=>by simp[R1,Nn,Zf7]
 | k+1,n,c::r=>by
   simp only[R1,Nn]
   split
   ·rw[Zun k]
    simp[Zf7]
   ·simp[Zf7]
theorem Zq3:∀(k:Nat) (r:List UInt8),∀c∈r.take (Nn k r),48≤c.toNat∧c.toNat≤55
 | 0,r,c,h=>by simp[Nn]at h
 | k+1,[],c,h=>by simp[Nn]at h
 | k+1,d::r,c,h=>by
   simp only[Nn]at h
   split at h
   ·rw[List.take_succ_cons]at h
    rcases List.mem_cons.1 h with rfl | h
    ·assumption
    ·exact Zq3 k r c h
   ·simp at h
theorem Zuo:∀(k:Nat) (r:List UInt8),Nn k r≤k∧Nn k r≤r.length
 | 0,r=>by simp[Nn]
 | k+1,[]=>by simp[Nn]
 | k+1,d::r=>by
   have:=Zuo k r
   simp only[Nn,List.length_cons]
   split <;> omega
theorem Zup:∀(l:List UInt8) (n:Nat),(∀c∈l,48≤c.toNat∧c.toNat≤55)→Zf7 n l+1≤(n+1)*8 ^ l.length
 | [],n,_=>by simp[Zf7]
 | c::l,n,h=>by
   have h1:=h c List.mem_cons_self
   have:=Zup l (8*n+(c.toNat - 48)) fun d hd=>h d (List.mem_cons_of_mem _ hd)
   have e:Zf7 n (c::l)=Zf7 (8*n+(c.toNat - 48)) l:=rfl
   rw[e,List.length_cons,Nat.pow_succ,Nat.mul_comm (8 ^ l.length) 8,←Nat.mul_assoc]
   exact Nat.le_trans this (Nat.mul_le_mul_right _ (by omega))
theorem Zvy {s:List UInt8} {i K:Nat} (hs:s.length<1000000000000) (hK:K≤3) (hi:i+1+K≤s.length) (hdig:∀c∈(s.drop (i+1)).take K,48≤c.toNat∧c.toNat≤55) (hwf:st.Wf):∀(m k v:Nat) (e:Env),k+m=K→v+1≤8 ^ k→Zb e 0= .str s→Zb e 1= .int .i64 i→Zb e 6= .int .i64 K→Zb e 7= .int .i64 v→Zb e 8= .int .i64 k→
  Res (run T (.loop B.W6) e st) fun x e' s'=>x= .exit 0∧s'=st∧Zb e' 6= .int .i64 K∧Zb e' 7= .int .i64 ((Zf7 v (((s.drop (i+1)).take K).drop k):Nat):Int):=by
 intro m
 induction m with
 | zero=>
   intro k v e hk hv g0 g1 g6 g7 g8
   have:k=K:=by omega
   subst this
   rw[Zn]
   have hz:((s.drop (i+1)).take k).drop k=[]:=List.drop_eq_nil_iff.2 (by rw[List.length_take];omega)
   simp[B.W6,go_sem,g0,g1,g6,g7,g8]
   rfl
 | succ m ih=>
   intro k v e hk hv g0 g1 g6 g7 g8
   have hkK:(k:Int)<K:=by omega
   obtain⟨c,hc,hd⟩:=Z9 (s:=s) (i:=i+1+k) (by omega)
   have hd2:((s.drop (i+1)).take K).drop k=c::((s.drop (i+1)).take K).drop (k+1):=by
    have hl:k<((s.drop (i+1)).take K).length:=by rw[List.length_take,List.length_drop];omega
    obtain⟨c',hc',hd'⟩:=Z9 hl
    rw[hd']
    have:c'=c:=by
     rw[List.getElem?_take,if_pos (by omega),List.getElem?_drop,hc]at hc'
     exact(Option.some.inj hc').symm
    rw[this]
   have hcd:=hdig c (List.mem_of_mem_drop (by rw[hd2];exact List.mem_cons_self))
   have h8k:(8:Nat) ^ k≤8 ^ 3:=Nat.pow_le_pow_right (by omega) (by omega)
   have h8:(8:Nat) ^ 3=512:=rfl
   have e1:IntKind.i64.wrap ((v:Int)*8)=v*8:=Zf (by omega) (by omega)
   have e2:IntKind.i64.wrap ((i:Int)+1)=(i:Int)+1:=Zf (by omega) (by omega)
   have e3:IntKind.i64.wrap ((i:Int)+1+k)=((i+1+k:Nat):Int):=by rw[Zf (by omega) (by omega)];omega
   have e4:IntKind.i64.wrap ((c.toNat:Nat):Int)=c.toNat:=Zf (by omega) (by omega)
   have e5:IntKind.i64.wrap ((v:Int)*8+c.toNat)=v*8+c.toNat:=Zf (by omega) (by omega)
   have e6:IntKind.i64.wrap ((v:Int)*8+c.toNat - 48)=((8*v+(c.toNat - 48):Nat):Int):=by rw[Zf (by omega) (by omega)];omega
   have e7:IntKind.i64.wrap ((k:Int)+1)=((k+1:Nat):Int):=Zf (by omega) (by omega)
   obtain⟨q,hq⟩:∃q,q=i+1+k:=⟨_,rfl⟩
   rw[←hq]at e3 hc
   have hql:(q:Int)<s.length:=by omega
   rw[Zn]
   simp[B.W6,go_sem,g0,g1,g6,g7,g8,hkK,e1,e2,e3,e4,e5,e6,hc]
   rw[hd2]
   refine(ih (k+1) (8*v+(c.toNat - 48)) _ (by omega) (by rw[Nat.pow_succ];omega) (by simp[go_sem]) (by simp[go_sem]) (by simp[go_sem]) (by simp[go_sem,e6]) (by simp[go_sem,e7])).mono fun x e s h=>h
theorem Zjz {c:UInt8} (h:48≤c.toNat∧c.toNat≤55∨c=10∨c=13):letter c=none:=by
 have hb:(List.range 256).all (fun n=> !((decide (48≤n) && decide (n≤55)) || decide (n=10) || decide (n=13)) || (letter (UInt8.ofNat n)).isNone)=true:=by kernel_rfl
 have:=V7 hb c
 simp only[UInt8.ofNat_toNat]at this
 cases hl:letter c with
 | none=>rfl
 | some o=>
   rw[hl]at this
   simp at this
   rcases h with h | rfl | rfl
   ·omega
   ·simp at this
   ·simp at this
theorem Zui {s2:St} (x:Ext st s2) (c:UInt8):Ext st ⟨Zp st.nx ((s2.nx,.cells 5 false [.int .u8 (c.toNat:Int)])::s2.h),s2.nx+1⟩∧Rd (Zp st.nx ((s2.nx,Z7.cells 5 false [.int .u8 (c.toNat:Int)])::s2.h)) (.slice s2.nx 0 1 (.known 1)) 1 1 (u8s [c]):=by
 have y:=x.trans (Ext.new x.wf (.cells 5 false [.int .u8 (c.toNat:Int)]))
 refine⟨y.Zp,.inr ⟨_,_,_,rfl,Mw (ty:=5) (l:=false) (Qv y.wf (by simp[Ze];rfl) rfl) rfl⟩⟩
theorem Zmp {c:UInt8} {r:List UInt8} (h:c=10∨c=13):Zi9 (c::r)=1+Mh c r:=by
 unfold Zi9 Mh
 rcases h with rfl | rfl
 ·simp[atS]
 ·cases r with
  | nil=>simp[atS]
  | cons b r=>
    by_cases hb:b=10
    ·subst hb;simp[atS]
    ·have:¬b.toNat=10:=fun e=>hb (UInt8.toNat_inj.1 e)
     simp[atS,hb,this]
theorem Zfo {c:UInt8} {r:List UInt8} (h:¬(c=10∨c=13)):Zi9 (c::r)=0:=by
 simp only[not_or]at h
 have h1:¬c.toNat=10:=fun e=>h.1 (UInt8.toNat_inj.1 e)
 have h2:¬c.toNat=13:=fun e=>h.2 (UInt8.toNat_inj.1 e)
 simp[Zi9,atS,h1,h2]
theorem Zl5 (H:B.Rh T) (hwf:st.Wf) {s:List UInt8} {i:Nat} (hs:s.length<1000000000000) (hi:i+1<s.length) {o:List UInt8} {m:Nat} (he:esc (s.drop (i+1))=some (o,m)):
  Jg (call T (.fn 89 [] []) [.str s,.int .i64 (i:Int)] st) fun v s'=>∃sv,v= .tuple [sv,.int .i64 ((1+m:Nat):Int)]∧Ext st s'∧Rd s'.h sv 1 o.length (u8s o):=by
 refine Q3 H.e H.f rfl ?_
 have e1:IntKind.i64.wrap ((i:Int)+1)=((i+1:Nat):Int):=Zf (by omega) (by omega)
 have ho:=fun(st':St) (hw:st'.Wf)=>Zj6 (st:=st') H.Ux hw (s:=s) (i:=i+1) (by omega) hs
 have hen:=fun(st':St) (hw:st'.Wf)=>Zgt (st:=st') H.K8 hw (s:=s) (i:=i+1) (by omega) hs
 obtain⟨c,hc,hd⟩:=Z9 (s:=s) (i:=i+1) (by omega)
 have hdig:=Zq3 3 (s.drop (i+1))
 have hle:=Zuo 3 (s.drop (i+1))
 rw[List.length_drop]at hle
 simp[B.Vu,go_sem,e1]
 refine(ho _ hwf).use fun s1 x1=> ?_
 obtain⟨k2,hk2⟩:∃k2,k2=i+1:=⟨_,rfl⟩
 by_cases hoc:48≤c.toNat∧c.toNat≤55
 ·have hK:Nn 3 (s.drop (i+1))=Nn 2 (s.drop (i+1+1))+1:=by rw[hd];simp[Nn,hoc]
  have hesc:esc (s.drop (i+1))=some ([UInt8.ofNat (Zf7 0 ((s.drop (i+1)).take (Nn 3 (s.drop (i+1)))))],Nn 3 (s.drop (i+1))):=by
   rw[hK,hd]
   have h10:¬(c=10∨c=13):=by rintro(rfl | rfl) <;> simp at hoc
   simp only[esc,Zjz (.inl hoc),if_neg h10,if_pos hoc,Zun,List.take_succ_cons]
   simp[Zf7,Nat.add_comm]
  rw[hesc]at he
  simp only[Option.some.injEq,Prod.mk.injEq]at he
  obtain⟨rfl,rfl⟩:=he
  have hvl:=Zup ((s.drop (i+1)).take (Nn 3 (s.drop (i+1)))) 0 hdig
  have hKl:((s.drop (i+1)).take (Nn 3 (s.drop (i+1)))).length≤3:=by rw[List.length_take];omega
  have h8k:=Nat.pow_le_pow_right (show 0<8 by omega) hKl
  have h8:(8:Nat) ^ 3=512:=rfl
  have lp:=fun e a b c d f=>Zvy (T:=T) (st:=s1) (K:=Nn 3 (s.drop (i+1))) hs hle.1 (by omega) hdig x1.wf (Nn 3 (s.drop (i+1))) 0 0 e (by omega) (by simp) a b c d f
  simp only[List.drop_zero]at lp
  have hK0:0<Nn 3 (s.drop (i+1)):=by omega
  generalize Zf7 0 ((s.drop (i+1)).take (Nn 3 (s.drop (i+1))))=V at lp hvl⊢
  have hV:V≤511:=by omega
  generalize Nn 3 (s.drop (i+1))=K at lp hK0 hle⊢
  have hK0':(0:Int)<K:=by omega
  simp[go_sem,hK0,hK0']
  refine(lp _ (by simp[go_sem]) (by simp[go_sem]) (by simp[go_sem]) (by simp[go_sem]) (by simp[go_sem])).mono ?_
  rintro x e' s2 ⟨rfl,rfl,g6,g7⟩
  have w1:(V:Int).tmod 256=((V % 256:Nat):Int):=by rw[Int.tmod_eq_emod_of_nonneg (by omega)];omega
  have w2:IntKind.u8.wrap ((V % 256:Nat):Int)=((UInt8.ofNat V).toNat:Int):=by
   rw[wrap_u8 (by omega) (by omega)];simp
  have w3:IntKind.i64.wrap (1+(K:Int))=((1+K:Nat):Int):=by rw[Zf (by omega) (by omega)];omega
  obtain⟨y1,y2⟩:=Zui x1 (UInt8.ofNat V)
  generalize UInt8.ofNat V=b at w2 y1 y2⊢
  generalize V % 256=Vr at w1 w2
  simp[go_sem,g6,g7,NO.run,w1,w2,w3,Y3]
  exact⟨y1,y2⟩
 ·have hK:Nn 3 (s.drop (i+1))=0:=by rw[hd];simp[Nn,hoc]
  rw[hK]
  simp[go_sem,e1]
  refine(hen _ x1.wf).use fun s2 x2'=> ?_
  have x2:=x1.trans x2'
  by_cases hln:c=10∨c=13
  ·have hes:Zi9 (s.drop (i+1))=1+Mh c (s.drop (i+1+1)):=by rw[hd];exact Zmp hln
   have hesc:esc (s.drop (i+1))=some ([],1+Mh c (s.drop (i+1+1))):=by
    rw[hd];simp only[esc,Zjz (.inr hln),if_pos hln]
   rw[hesc]at he
   simp only[Option.some.injEq,Prod.mk.injEq]at he
   obtain⟨rfl,rfl⟩:=he
   have hlu:=Ou c (s.drop (i+1+1))
   rw[List.length_drop]at hlu
   rw[hes]
   generalize Mh c (s.drop (i+1+1))=L at hlu⊢
   obtain⟨L1,hL1⟩:∃L1,L1=1+L:=⟨_,rfl⟩
   have hL0:(0:Int)<L1:=by omega
   have hL0':0<L1:=by omega
   rw[←hL1]
   have w3:IntKind.i64.wrap (1+(L1:Int))=((1+L1:Nat):Int):=by rw[Zf (by omega) (by omega)];omega
   simp[go_sem,hL0,hL0',w3]
   exact⟨x2.Zp,.inl ⟨rfl,rfl,rfl⟩⟩
  ·have hes:Zi9 (s.drop (i+1))=0:=by rw[hd];exact Zfo hln
   rw[hes]
   have hesc:esc (s.drop (i+1))=some (match letter c with | some o=>([o],1) | none=>([c],1)):=by
    rw[hd];simp only[esc,if_neg hln,if_neg hoc];try rfl
   rw[hesc]at he
   obtain⟨q,hq⟩:∃q,q=i+1:=⟨_,rfl⟩
   rw[←hq]at hc e1
   have fin:∀(b:UInt8),o=[b]∧m=1→Ext st ⟨Zp st.nx ((s2.nx,.cells 5 false [.int .u8 (b.toNat:Int)])::s2.h),s2.nx+1⟩∧Rd (Zp st.nx ((s2.nx,Z7.cells 5 false [.int .u8 (b.toNat:Int)])::s2.h)) (.slice s2.nx 0 1 (.known 1)) 1 o.length (u8s o):=by
    rintro b ⟨rfl,rfl⟩
    exact Zui x2 b
   have hm1:m=1:=by
    cases hl:letter c <;> rw[hl]at he <;> simp at he <;> exact he.2.symm
   subst hm1
   have hn:∀k:UInt8,c≠k→¬(c.toNat:Int)=(k.toNat:Int)∧¬c.toNat=k.toNat:=fun k h=>⟨Uj h rfl,fun e=>h (UInt8.toNat_inj.1 e)⟩
   by_cases h1:c=110
   ·subst h1
    simp[letter]at he
    have f:=fin 10 ⟨he.symm,rfl⟩
    simp[go_sem,e1,hc,NO.run,Y3]
    exact f
   by_cases h2:c=114
   ·subst h2
    simp[letter]at he
    have f:=fin 13 ⟨he.symm,rfl⟩
    simp[go_sem,e1,hc,NO.run,Y3]
    exact f
   by_cases h3:c=116
   ·subst h3
    simp[letter]at he
    have f:=fin 9 ⟨he.symm,rfl⟩
    simp[go_sem,e1,hc,NO.run,Y3]
    exact f
   by_cases h4:c=98
   ·subst h4
    simp[letter]at he
    have f:=fin 8 ⟨he.symm,rfl⟩
    simp[go_sem,e1,hc,NO.run,Y3]
    exact f
   by_cases h5:c=102
   ·subst h5
    simp[letter]at he
    have f:=fin 12 ⟨he.symm,rfl⟩
    simp[go_sem,e1,hc,NO.run,Y3]
    exact f
   have m1:=hn _ h1
   have m2:=hn _ h2
   have m3:=hn _ h3
   have m4:=hn _ h4
   have m5:=hn _ h5
   simp at m1 m2 m3 m4 m5
   simp[letter,h1,h2,h3,h4,h5]at he
   have f:=fin c ⟨he.symm,rfl⟩
   simp[go_sem,e1,hc,NO.run,Y3,m1,m2,m3,m4,m5]
   exact f
end Go.Ev

/- The reference's Unquote told. -/
namespace Go.Ev
open Go
variable {T : Tab} {st : St}
def Zja (n:Nat):Option (List UInt8×List UInt8)→List UInt8×Nat×Int
 | none=>([],0,5)
 | some (o,l)=>if 1000<o.length then([],0,26)else(o,n - l.length,0)
theorem Zh7 (H:B.Wx T) {s:List UInt8} (hs:s.length<1000000000000) (st0:St):∀(f d k:Nat) (out:List UInt8) (e:Env) (st1:St) (v:AV),s.length+1≤k+f→k≤s.length→1≤d→d≤k+1→out.length≤k→Ext st0 st1→Grow st0 st1 v out→Zb e 0= .str s→Zb e 5=v→Zb e 6= .int .i64 d→Zb e 7= .int .i64 k→
  Res (run T (.loop B.Qm) e st1) fun x e' s'=>Ext st0 s'∧((x= .exit 0∧unq f d (s.drop k) out=none)∨(x= .ret∧Zb e' 2= .str (Zja s.length (unq f d (s.drop k) out)).1∧Zb e' 3= .int .i64 ((Zja s.length (unq f d (s.drop k) out)).2.1:Int)∧Zb e' 4= .int .i64 (Zja s.length (unq f d (s.drop k) out)).2.2)):=by
 intro f
 induction f with
 | zero=>intro d k out e st1 v h1 h2;omega
 | succ f ih=>
   intro d k out e st1 v hf hk hd1 hdk ho hx hg g0 g5 g6 g7
   rw[Zn]
   by_cases hkl:k=s.length
   ·subst hkl
    have hd:s.drop s.length=[]:=by simp
    rw[hd]
    simp[B.Qm,go_sem,g0,g5,g6,g7,unq,hx]
   have hkl1:k<s.length:=by omega
   have hkl2:(k:Int)<s.length:=by omega
   obtain⟨c,hc,hd⟩:=Z9 hkl1
   have hen:=fun(st':St) (hw:st'.Wf)=>Zgt (st:=st') H.K8 hw (s:=s) (i:=k) (by omega) hs
   have step:∀(d':Nat) (o:List UInt8) (k':Nat) (e':Env) (st2:St) (v':AV),unq (f+1) d (s.drop k) out=unq f d' (s.drop k') (out++o)→k+1≤k'→k'≤s.length→1≤d'→d'≤k+2→k+o.length≤k'→Ext st0 st2→Grow st0 st2 v' (out++o)→Zb e' 0= .str s→Zb e' 5=v'→Zb e' 6= .int .i64 d'→Zb e' 7= .int .i64 k'→
     Res (run T (.loop B.Qm) e' st2) fun x e' s'=>Ext st0 s'∧((x= .exit 0∧unq (f+1) d (s.drop k) out=none)∨(x= .ret∧Zb e' 2= .str (Zja s.length (unq (f+1) d (s.drop k) out)).1∧Zb e' 3= .int .i64 ((Zja s.length (unq (f+1) d (s.drop k) out)).2.1:Int)∧Zb e' 4= .int .i64 (Zja s.length (unq (f+1) d (s.drop k) out)).2.2)):=by
    intro d' o k' e' st2 v' he h1 h2 h3 h3' h4 h5 h6 k0 k5 k6 k7
    rw[he]
    exact ih d' k' (out++o) e' st2 v' (by omega) h2 h3 (by omega) (by rw[List.length_append];omega) h5 h6 k0 k5 k6 k7
   generalize hU:unq (f+1) d (s.drop k) out=U at step⊢
   have ek:IntKind.i64.wrap ((k:Int)+1)=((k+1:Nat):Int):=Zf (by omega) (by omega)
   by_cases h41:c=41
   ·subst h41
    by_cases hdd:d=1
    ·subst hdd
     have hun:U=some (out,s.drop (k+1)):=by rw[←hU,hd];simp[unq]
     have hlen:s.length - (s.drop (k+1)).length=k+1:=by rw[List.length_drop];omega
     have hu8:=Kb out
     obtain⟨⟨m,hsl⟩,b6,b7⟩:=hg
     rcases hsl with ⟨k1,k2,k3⟩ | ⟨k1,k2,k3⟩ | ⟨ty',k1,k2,k3⟩
     ·have:out=[]:=List.length_eq_zero_iff.1 k3
      subst this
      subst k1
      rw[hun]
      simp only[Zja,hlen]
      obtain⟨q,hq⟩:∃q,q=k+1:=⟨_,rfl⟩
      rw[←hq]at ek⊢
      simp[B.Qm,go_sem,g0,g5,g6,g7,hkl2,hc,RO.run,ek,hx]
     ·have hrd:Z1 st1.h m 0 out.length=some (u8s out):=by
       simp[Z1,k2,Re]
       exact List.take_of_length_le (by rw[Re];exact Nat.le_refl _)
      subst k1
      rw[hun]
      simp only[Zja,hlen]
      obtain⟨q,hq⟩:∃q,q=k+1:=⟨_,rfl⟩
      rw[←hq]at ek⊢
      by_cases hlong:1000<out.length
      ·simp[B.Qm,go_sem,g0,g5,g6,g7,hkl2,hc,RO.run,ek,hx,hlong,show (1000:Int)<out.length by omega]
      ·simp[B.Qm,go_sem,g0,g5,g6,g7,hkl2,hc,RO.run,ek,hx,hlong,show¬(1000:Int)<out.length by omega,hrd,hu8]
     ·exact absurd k1 (b7 _ _ _ _)
    ·have hdd':¬(d:Int)=1:=by omega
     have hun:U=unq f (d - 1) (s.drop (k+1)) (out++[41]):=by rw[←hU,hd];simp[unq,hdd]
     have he0:Zi9 (s.drop k)=0:=by rw[hd];exact Zfo (by decide)
     have e6:IntKind.i64.wrap ((d:Int) - 1)=((d - 1:Nat):Int):=by rw[Zf (by omega) (by omega)];omega
     simp[B.Qm,go_sem,g0,g5,g6,g7,hkl2,hc,hdd,hdd']
     refine(hen _ hx.wf).use fun s1 x1'=> ?_
     have x1:=hx.trans x1'
     have hg1:=hg.ext x1' hx.wf
     rw[he0]
     simp[go_sem,hc,NO.run,Y3]
     refine(hg1.push x1.nx x1.wf (k:=1) (by omega) (c:=41) (by omega)).mono ?_
     rintro v2 s2 ⟨o2,f2⟩
     have x2:=x1.Yo f2 hg1.ge
     simp[go_sem]
     exact step (d - 1) [41] (k+1) _ _ v2 hun (by omega) (by omega) (by omega) (by omega) (by simp) x2 o2 (by simp[go_sem]) (by simp[go_sem]) (by simp[go_sem,e6]) (by simp[go_sem,ek])
   ·have n1:¬(c.toNat:Int)=41:=Uj h41 rfl
    have m1:¬c.toNat=41:=by omega
    by_cases h92:c=92
    ·subst h92
     by_cases hk1:k+1=s.length
     ·have hun:U=none:=by rw[←hU,hd,hk1];simp[unq,esc]
      have hk1':((k+1:Nat):Int)=s.length:=by omega
      obtain⟨q,hq⟩:∃q,q=k+1:=⟨_,rfl⟩
      rw[←hq]at ek hk1'
      simp[B.Qm,go_sem,g0,g5,g6,g7,hkl2,hc,ek,hk1',hun,Zja,hx]
     ·obtain⟨q,hq⟩:∃q,q=k+1:=⟨_,rfl⟩
      have hk1':¬(q:Int)=s.length:=by omega
      have hk1'':¬q=s.length:=by omega
      obtain⟨p,hes⟩:∃p,esc (s.drop (k+1))=some p:=by
       obtain⟨c2,_,hd2⟩:=Z9 (s:=s) (i:=k+1) (by omega)
       rw[hd2];exact⟨_,rfl⟩
      obtain⟨o,n⟩:=p
      obtain⟨u1,u2,u3⟩:=Zpz hes
      rw[List.length_drop]at u2
      have hun:U=unq f d (s.drop (k+1+n)) (out++o):=by rw[←hU,hd];simp[unq,hes,List.drop_drop]
      have hesc:=Zl5 H.Vu hx.wf hs (by omega) hes
      have en:IntKind.i64.wrap ((k:Int)+((1+n:Nat):Int))=((k+1+n:Nat):Int):=by rw[Zf (by omega) (by omega)];omega
      rw[←hq]at ek
      obtain⟨n1',hn1⟩:∃n1,n1=1+n:=⟨_,rfl⟩
      rw[←hn1]at hesc en
      simp[B.Qm,go_sem,g0,g5,g6,g7,hkl2,hc,ek,hk1',hk1'']
      refine hesc.mono ?_
      rintro vv s1 ⟨sv,rfl,x1',hrd⟩
      have x1:=hx.trans x1'
      have hg1:=hg.ext x1' hx.wf
      simp[go_sem]
      refine(hg1.app x1.nx x1.wf hrd (by omega)).mono ?_
      rintro v2 s2 ⟨o2,f2⟩
      have x2:=x1.Yo f2 hg1.ge
      simp[go_sem]
      exact step d o (k+1+n) _ _ v2 hun (by omega) (by omega) (by omega) (by omega) (by omega) x2 o2 (by simp[go_sem]) (by simp[go_sem]) (by simp[go_sem]) (by simp[go_sem,en])
    ·have n2:¬(c.toNat:Int)=92:=Uj h92 rfl
     have m2:¬c.toNat=92:=by omega
     by_cases hln:c=10∨c=13
     ·have hes:Zi9 (s.drop k)=1+Mh c (s.drop (k+1)):=by rw[hd];exact Zmp hln
      have h40:¬c=40:=by rintro rfl;simp at hln
      have hun:U=unq f d (s.drop (k+1+Mh c (s.drop (k+1)))) (out++[10]):=by rw[←hU,hd];simp[unq,h92,h40,h41,hln,List.drop_drop]
      have hlu:=Ou c (s.drop (k+1))
      rw[List.length_drop]at hlu
      generalize Mh c (s.drop (k+1))=L at hes hun hlu
      have eL:IntKind.i64.wrap ((k:Int)+((1+L:Nat):Int))=((k+1+L:Nat):Int):=by rw[Zf (by omega) (by omega)];omega
      rw[hes]at hen
      obtain⟨L1,hL1⟩:∃L1,L1=1+L:=⟨_,rfl⟩
      have hL0:(0:Int)<L1:=by omega
      have hL0':0<L1:=by omega
      rw[←hL1]at hen eL
      simp[B.Qm,go_sem,g0,g5,g6,g7,hkl2,hc,n1,n2,m1,m2]
      refine(hen _ hx.wf).use fun s1 x1'=> ?_
      have x1:=hx.trans x1'
      have hg1:=hg.ext x1' hx.wf
      simp[go_sem,hc,NO.run,Y3,hL0,hL0']
      refine(hg1.push x1.nx x1.wf (k:=1) (by omega) (c:=10) (by omega)).mono ?_
      rintro v2 s2 ⟨o2,f2⟩
      have x2:=x1.Yo f2 hg1.ge
      simp[go_sem]
      refine(hen _ x2.wf).use fun s3 x3'=> ?_
      have x3:=x2.trans x3'
      simp[go_sem]
      exact step d [10] (k+1+L) _ _ v2 hun (by omega) (by omega) (by omega) (by omega) (by simp) x3 (o2.ext x3' x2.wf) (by simp[go_sem]) (by simp[go_sem]) (by simp[go_sem]) (by simp[go_sem,eL])
     ·have he0:Zi9 (s.drop k)=0:=by rw[hd];exact Zfo hln
      rw[he0]at hen
      by_cases h40:c=40
      ·subst h40
       have hun:U=unq f (d+1) (s.drop (k+1)) (out++[40]):=by rw[←hU,hd];simp[unq]
       have e6:IntKind.i64.wrap ((d:Int)+1)=((d+1:Nat):Int):=Zf (by omega) (by omega)
       simp[B.Qm,go_sem,g0,g5,g6,g7,hkl2,hc]
       refine(hen _ hx.wf).use fun s1 x1'=> ?_
       have x1:=hx.trans x1'
       have hg1:=hg.ext x1' hx.wf
       simp[go_sem,hc,NO.run,Y3]
       refine(hg1.push x1.nx x1.wf (k:=1) (by omega) (c:=40) (by omega)).mono ?_
       rintro v2 s2 ⟨o2,f2⟩
       have x2:=x1.Yo f2 hg1.ge
       simp[go_sem]
       exact step (d+1) [40] (k+1) _ _ v2 hun (by omega) (by omega) (by omega) (by omega) (by simp) x2 o2 (by simp[go_sem]) (by simp[go_sem]) (by simp[go_sem,e6]) (by simp[go_sem,ek])
      ·have hun:U=unq f d (s.drop (k+1)) (out++[c]):=by rw[←hU,hd];simp[unq,h92,h40,h41,hln]
       have n3:¬(c.toNat:Int)=40:=Uj h40 rfl
       have m3:¬c.toNat=40:=by omega
       simp[B.Qm,go_sem,g0,g5,g6,g7,hkl2,hc,n1,n2,m1,m2]
       refine(hen _ hx.wf).use fun s1 x1'=> ?_
       have x1:=hx.trans x1'
       have hg1:=hg.ext x1' hx.wf
       simp[go_sem,hc,NO.run,Y3,n1,n2,n3,m1,m2,m3]
       refine(hg1.push x1.nx x1.wf (k:=1) (by omega) (c:=c) (by omega)).mono ?_
       rintro v2 s2 ⟨o2,f2⟩
       have x2:=x1.Yo f2 hg1.ge
       simp[go_sem]
       exact step d [c] (k+1) _ _ v2 hun (by omega) (by omega) (by omega) (by omega) (by simp) x2 o2 (by simp[go_sem]) (by simp[go_sem]) (by simp[go_sem]) (by simp[go_sem,ek])
theorem Zf9 (H:B.Wx T) (hwf:st.Wf) {s:List UInt8} (hs:s.length<1000000000000):Qa T st (.fn 70 [] []) [.str s] (Rx (J1 s)):=by
 refine Zs H.e H.f rfl ?_
 simp[B.Vd,go_sem]
 refine(Zdu H.Kc hwf hs (i:=0)).use fun s1 x1=> ?_
 rw[List.drop_zero]
 cases s with
 | nil=>simp[go_sem,atS,J1,Rx,x1]
 | cons c r=>
   by_cases h40:c=40
   ·subst h40
    have ht:J1 (40::r)=Zja (40::r).length (unq (40::r).length 1 r []):=by
     rw[J1,if_pos rfl]
     rfl
    simp[go_sem,atS]
    refine(Zh7 H hs st (40::r).length 1 1 [] _ s1 .Zk (by simp;omega) (by simp) (by omega) (by omega) (by simp) x1 (.nil _ _) (by simp[go_sem]) (by simp[go_sem]) (by simp[go_sem]) (by simp[go_sem])).mono ?_
    rw[show (40::r:List UInt8).drop 1=r from rfl,ht]
    generalize unq (40::r).length 1 r []=U
    rintro x e s2 ⟨x2,⟨rfl,rfl⟩ | ⟨rfl,g2,g3,g4⟩⟩
    ·simp[go_sem,Rx,Zja,x2]
    ·simp[go_sem,Rx,g2,g3,g4,x2]
   ·have n1:¬(c.toNat:Int)=40:=Uj h40 rfl
    have m1:¬c.toNat=40:=by omega
    simp[go_sem,atS,n1,m1,Rx,J1,h40,x1]
end Go.Ev

/- The reference's Quote; LexQuotes told. -/
namespace Go.Ev
open Go
variable {T : Tab} {st : St}
theorem Zwz.app {st0 s1:St} (hF:st0.nx≤s1.nx) (hw:s1.Wf) {v:AV} {l m:List UInt8} (a:Sl s1 v 5 1 l.length (u8s l)) (b:Xg [] st0 v) (hm:0<m.length) (hl:l.length+m.length<35184372088831):
  Jg (Ym 5 1 1 ⟨(s1.nx,.cells 5 false (u8s m))::s1.h,s1.nx+1⟩ v (.slice s1.nx 0 m.length (.known m.length))) fun v' s=>Sl s v' 5 1 (l++m).length (u8s (l++m))∧Xg [] st0 v'∧Ext s1 ⟨s1.h,s1.nx⟩∧Frm v.nms s1 s:=by
 have xa:=Ext.new hw (.cells 5 false (u8s m))
 have hap:=Sl.append (x:= .slice s1.nx 0 m.length (.known m.length)) (j:=m.length) (new:=u8s m) (b:=1) (Frm.refl xa.wf v.nms) (fun n h=> .inl h) (a.ext xa hw)
  (.inr ⟨_,_,_,rfl,Mw (ty:=5) (l:=false) (by simp[Ze]) (by rw[Re,Nat.mul_one])⟩) (by simp[u8s,AV.sc]) (by omega) (by omega) (.inl hm)
 refine hap.mono ?_
 rintro v2 s2 ⟨k1,k2,k3,_⟩
 refine⟨by rw[Zdj,List.length_append];exact k1,fun n hn=> ?_,.refl hw,(xa.fr v.nms).trans k2 (fun n h=> .inl h)⟩
 rcases k3 n hn with h | h
 ·exact b n h
 ·simp at h;exact .inr (by omega)
theorem Zab2 (c:UInt8):IntKind.u8.wrap (48+IntKind.u8.wrap ((c.toNat:Int) / 64))=((od2 c).toNat:Int)∧IntKind.u8.wrap (48+(IntKind.u8.wrap ((c.toNat:Int) / 8)).tmod 8)=((od1 c).toNat:Int)∧IntKind.u8.wrap (48+(c.toNat:Int).tmod 8)=((od0 c).toNat:Int):=by
 have h:(List.range 256).all (fun n=>decide (IntKind.u8.wrap (48+IntKind.u8.wrap (((n:Nat):Int) / 64))=((UInt8.ofNat (48+n / 64)).toNat:Int)) && decide (IntKind.u8.wrap (48+(IntKind.u8.wrap (((n:Nat):Int) / 8)).tmod 8)=((UInt8.ofNat (48+n / 8 % 8)).toNat:Int)) && decide (IntKind.u8.wrap (48+((n:Nat):Int).tmod 8)=((UInt8.ofNat (48+n % 8)).toNat:Int)))=true:=by kernel_rfl
 have:=V7 h c
 simp only[Bool.and_eq_true,decide_eq_true_eq]at this
 exact⟨this.1.1,this.1.2,this.2⟩
theorem Zl7 (H:B.Ln T) {s:List UInt8} (hs:s.length<1000000000000) (st0:St):∀(m i:Nat) (out:List UInt8) (e:Env) (st1:St) (v:AV),i+m=s.length→out.length≤1+4*i→Ext st0 st1→Sl st1 v 5 1 out.length (u8s out)→Xg [] st0 v→Zb e 0= .str s→Zb e 3=v→Zb e 4= .int .i64 i→
  Res (run T (.loop B.Jx) e st1) fun x e' s'=>x= .exit 0∧Ext st0 s'∧Sl s' (Zb e' 3) 5 1 (out++(s.drop i).flatMap Xl).length (u8s (out++(s.drop i).flatMap Xl))∧Xg [] st0 (Zb e' 3):=by
 intro m
 induction m with
 | zero=>
   intro i out e st1 v hi ho hx hg hm g0 g3 g4
   have:i=s.length:=by omega
   subst this
   have hd:s.drop s.length=[]:=by simp
   rw[hd,Zn]
   simp[B.Jx,go_sem,g0,g3,g4,hx,hg,hm]
 | succ m ih=>
   intro i out e st1 v hi ho hx hg hm g0 g3 g4
   have hil:(i:Int)<s.length:=by omega
   obtain⟨c,hc,hd⟩:=Z9 (s:=s) (i:=i) (by omega)
   have ek:IntKind.i64.wrap ((i:Int)+1)=((i+1:Nat):Int):=Zf (by omega) (by omega)
   have hge:∀n∈v.nms,st0.nx≤n:=fun n hn=>by
    rcases hm n hn with h | h
    ·cases h
    ·exact h
   have hql:=Zdg c
   have hap:=fun(q:List UInt8) (hq:0<q.length) (hq2:q.length≤4)=>Zwz.app (m:=q) hx.nx hx.wf hg hm hq (by omega)
   have step:∀(e':Env) (st2:St) (v':AV),Ext st0 st2→Sl st2 v' 5 1 (out++Xl c).length (u8s (out++Xl c))→Xg [] st0 v'→Zb e' 0= .str s→Zb e' 3=v'→Zb e' 4= .int .i64 ((i+1:Nat):Int)→
     Res (run T (.loop B.Jx) e' st2) fun x e' s'=>x= .exit 0∧Ext st0 s'∧Sl s' (Zb e' 3) 5 1 (out++(s.drop i).flatMap Xl).length (u8s (out++(s.drop i).flatMap Xl))∧Xg [] st0 (Zb e' 3):=by
    intro e' st2 v' h1 h2 h3 k0 k3 k4
    have:=ih (i+1) (out++Xl c) e' st2 v' (by omega) (by rw[List.length_append];omega) h1 h2 h3 k0 k3 k4
    rw[hd,List.flatMap_cons]
    rw[List.append_assoc]at this
    exact this
   generalize out++(s.drop i).flatMap Xl=OUT at step⊢
   rw[Zn]
   by_cases h1:c=40∨c=41∨c=92
   ·have hq:Xl c=[92,c]:=by simp[Xl,h1]
    have hcn:(c.toNat:Int)=40∨(c.toNat:Int)=41∨(c.toNat:Int)=92:=by rcases h1 with rfl | rfl | rfl <;> simp
    rw[hq]at step
    have hap2:=hap [92,c] (by simp) (by simp)
    have hu:u8s [92,c]=[.int .u8 92,.int .u8 (c.toNat:Int)]:=rfl
    rw[hu]at hap2
    obtain⟨n,hn⟩:∃n:Int,n=c.toNat:=⟨_,rfl⟩
    rw[←hn]at hcn hap2
    rcases hcn with rfl | rfl | rfl
    all_goals
     simp[B.Jx,go_sem,g0,g3,g4,hil,hc,←hn,NO.run,Y3]
     refine hap2.mono ?_
     rintro v2 s2 ⟨o2,m2,_,f2⟩
     simp[go_sem,ek]
     exact step _ _ v2 (hx.Yo f2 hge) o2 m2 (by simp[go_sem]) (by simp[go_sem]) (by simp[go_sem])
   ·simp only[not_or]at h1
    have n1:¬(c.toNat:Int)=40:=Uj h1.1 rfl
    have n2:¬(c.toNat:Int)=41:=Uj h1.2.1 rfl
    have n3:¬(c.toNat:Int)=92:=Uj h1.2.2 rfl
    have m1:¬c.toNat=40:=by omega
    have m2:¬c.toNat=41:=by omega
    have m3:¬c.toNat=92:=by omega
    by_cases h2:c.toNat<32∨126<c.toNat
    ·have hq:Xl c=[92,od2 c,od1 c,od0 c]:=by simp[Xl,h1,h2]
     obtain⟨d2,d1,d0⟩:=Zab2 c
     rw[hq]at step
     have hap2:=hap [92,od2 c,od1 c,od0 c] (by simp) (by simp)
     have hu:u8s [92,od2 c,od1 c,od0 c]=[.int .u8 92,.int .u8 ((od2 c).toNat:Int),.int .u8 ((od1 c).toNat:Int),.int .u8 ((od0 c).toNat:Int)]:=rfl
     rw[hu]at hap2
     have h2':¬(32:Int)≤c.toNat∨(32:Int)≤c.toNat∧¬(c.toNat:Int)≤126:=by omega
     rcases h2' with h2' | ⟨h2',h2''⟩
     ·simp[B.Jx,go_sem,g0,g3,g4,hil,hc,n1,n2,n3,m1,m2,m3,h2',d2,d1,d0,NO.run,Y3]
      refine hap2.mono ?_
      rintro v2 s2 ⟨o2,mm2,_,f2⟩
      simp[go_sem,ek]
      exact step _ _ v2 (hx.Yo f2 hge) o2 mm2 (by simp[go_sem]) (by simp[go_sem]) (by simp[go_sem])
     ·simp[B.Jx,go_sem,g0,g3,g4,hil,hc,n1,n2,n3,m1,m2,m3,h2',h2'',d2,d1,d0,NO.run,Y3]
      refine hap2.mono ?_
      rintro v2 s2 ⟨o2,mm2,_,f2⟩
      simp[go_sem,ek]
      exact step _ _ v2 (hx.Yo f2 hge) o2 mm2 (by simp[go_sem]) (by simp[go_sem]) (by simp[go_sem])
    ·have hq:Xl c=[c]:=by simp[Xl,h1,h2]
     rw[hq]at step
     have hap2:=hap [c] (by simp) (by simp)
     have hu:u8s [c]=[.int .u8 (c.toNat:Int)]:=rfl
     rw[hu]at hap2
     have h2':(32:Int)≤c.toNat:=by omega
     have h2'':(c.toNat:Int)≤126:=by omega
     simp[B.Jx,go_sem,g0,g3,g4,hil,hc,n1,n2,n3,m1,m2,m3,h2',h2'',NO.run,Y3]
     refine hap2.mono ?_
     rintro v2 s2 ⟨o2,mm2,_,f2⟩
     simp[go_sem,ek]
     exact step _ _ v2 (hx.Yo f2 hge) o2 mm2 (by simp[go_sem]) (by simp[go_sem]) (by simp[go_sem])
theorem Zkh (H:B.Ln T) (hwf:st.Wf) {s:List UInt8} (hs:s.length<1000000000000):Qa T st (.fn 72 [] []) [.str s] (.str (Az s)):=by
 refine Zs H.e H.f rfl ?_
 have hx:=Ext.new hwf (.cells 5 false [.int .u8 40])
 have hg:Sl ⟨(st.nx,.cells 5 false [.int .u8 40])::st.h,st.nx+1⟩ (.slice st.nx 0 1 (.known 1)) 5 1 ([40]:List UInt8).length (u8s [40]):=⟨st.nx,.made 5 rfl (by simp[Ze];rfl) rfl⟩
 have hm:Xg [] st (.slice st.nx 0 1 (.known 1)):=fun n hn=>by simp[AV.nms]at hn;subst hn;exact .inr (Nat.le_refl _)
 simp[B.Uv,go_sem,NO.run,Y3]
 refine(Zl7 H hs st s.length 0 [40] _ _ _ (by simp) (by simp) hx hg hm (by simp[go_sem]) (by simp[go_sem]) (by simp[go_sem])).mono ?_
 rintro x e s2 ⟨rfl,x2,g2,m2⟩
 have hlen:∀l:List UInt8,(l.flatMap Xl).length≤4*l.length:=by
  intro l
  induction l with
  | nil=>simp
  | cons c l ih=>
    have:=Zdg c
    simp only[List.flatMap_cons,List.length_append,List.length_cons]
    omega
 have:=hlen s
 rw[List.drop_zero]at g2
 obtain⟨v,hv⟩:∃v,Zb e 3=v:=⟨_,rfl⟩
 rw[hv]at g2 m2
 have hge:∀n∈v.nms,st.nx≤n:=fun n hn=>by
  rcases m2 n hn with h | h
  ·cases h
  ·exact h
 have hap:=Zwz.app (m:=[41]) x2.nx x2.wf g2 m2 (by simp) (by simp only[List.length_append,List.length_cons,List.length_nil];omega)
 have hu:u8s [41]=[.int .u8 41]:=rfl
 rw[hu]at hap
 simp[go_sem,hv,NO.run,Y3]
 refine hap.mono ?_
 rintro v3 s3 ⟨o3,m3,_,f3⟩
 have hq:[40]++s.flatMap Xl++[41]=Az s:=by simp[Az]
 rw[hq]at o3
 have x3:=x2.Yo f3 hge
 have hz:=Kb (Az s)
 rcases o3.rd with ⟨h1,h2,h3⟩ | ⟨n,off,cp,h1,h2⟩
 ·simp[Az]at h2
 ·subst h1
  rw[Nat.mul_one]at h2
  simp[go_sem,RO.run,h2,hz,x3]
end Go.Ev

/- The reference's reader of decimals. -/
namespace Go.Ev
open Go
variable {T : Tab} {st : St}
def Wm (l:List Nat):List AV:=l.map fun n=> .int .i64 ((n:Nat):Int)
theorem Zjq (l:List Nat):(Wm l).length=l.length:=by simp[Wm]
theorem Zmw (l:List Nat) (n:Nat):Wm (l++[n])=Wm l++[.int .i64 (n:Int)]:=by simp[Wm]
theorem Td (H:B.Gp T) (hwf:st.Wf) (c:UInt8):Qa T st (.fn 102 [] []) [.int .u8 (c.toNat:Int)] (.bool (J4 c)):=by
 refine Zs H.e H.f rfl ?_
 by_cases h:48≤c.toNat
 ·simp[B.K7,go_sem,h,show (48:Int)≤c.toNat by omega,J4,Ext.refl hwf]
  omega
 ·simp[B.K7,go_sem,h,show¬(48:Int)≤c.toNat by omega,J4,Ext.refl hwf]
def Jo:Bool→List UInt8→List Nat×Nat×List UInt8
 | _,[]=>([],0,[])
 | pt,c::r=>
   if J4 c=true then((c.toNat - 48)::(Jo pt r).1,(if pt=true then 1 else 0)+(Jo pt r).2.1,(Jo pt r).2.2)
   else if c=46∧pt=false then Jo true r
   else([],0,c::r)
theorem Ar:∀(pt:Bool) (r:List UInt8),(Jo pt r).1.length+(Jo pt r).2.2.length≤r.length∧(Jo pt r).2.1≤(Jo pt r).1.length
 | _,[]=>by simp[Jo]
 | pt,c::r=>by
   have h1:=Ar pt r
   have h2:=Ar true r
   simp only[Jo]
   split
   ·simp only[List.length_cons];split <;> omega
   ·split
    ·simp only[List.length_cons];omega
    ·simp
theorem Zz8 (H:B.Kr T) {s:List UInt8} (hs:s.length<1000000000000) (sg:Int) (st0:St):∀(m i:Nat) (l:List Nat) (ex:Int) (pt:Bool) (e:Env) (st1:St) (v:AV),i+m=s.length→l.length≤i→-(i:Int)≤ex→ex≤0→Ext st0 st1→Sl st1 v 3 1 l.length (Wm l)→Xg [] st0 v→Zb e 0= .str s→Zb e 6= .int .i64 i→Zb e 7= .int .i64 sg→Zb e 8=v→Zb e 9= .int .i64 ex→Zb e 10= .bool pt→
  Res (run T (.loop B.U5) e st1) fun x e' s'=>x= .exit 0∧Ext st0 s'∧Zb e' 0= .str s∧Zb e' 6= .int .i64 ((s.length - (Jo pt (s.drop i)).2.2.length:Nat):Int)∧Zb e' 7= .int .i64 sg∧Sl s' (Zb e' 8) 3 1 (l++(Jo pt (s.drop i)).1).length (Wm (l++(Jo pt (s.drop i)).1))∧Xg [] st0 (Zb e' 8)∧Zb e' 9= .int .i64 (ex - ((Jo pt (s.drop i)).2.1:Nat)):=by
 intro m
 induction m with
 | zero=>
   intro i l ex pt e st1 v hi hl hx1 hx2 hx hv hm g0 g6 g7 g8 g9 g10
   have:i=s.length:=by omega
   subst this
   have hd:s.drop s.length=[]:=by simp
   rw[hd,Zn]
   simp[B.U5,go_sem,g0,g6,g7,g8,g9,g10,Jo,hx,hv,hm]
 | succ m ih=>
   intro i l ex pt e st1 v hi hl hx1 hx2 hx hv hm g0 g6 g7 g8 g9 g10
   have hil:(i:Int)<s.length:=by omega
   obtain⟨c,hc,hd⟩:=Z9 (s:=s) (i:=i) (by omega)
   have e6:IntKind.i64.wrap ((i:Int)+1)=((i+1:Nat):Int):=Zf (by omega) (by omega)
   have hge:∀n∈v.nms,st0.nx≤n:=fun n hn=>by
    rcases hm n hn with h | h
    ·cases h
    ·exact h
   have hml:=Ar pt (s.drop i)
   have hstop:s.length - (c::s.drop (i+1)).length=i:=by simp only[List.length_cons,List.length_drop];omega
   rw[Zn]
   simp[B.U5,go_sem,g0,g6,g7,g8,g9,g10,hil,hc]
   refine(Td H.K7 hx.wf c).use fun s1 x1'=> ?_
   have x1:=hx.trans x1'
   have hv1:=hv.ext x1' hx.wf
   by_cases hdg:J4 c=true
   ·have hd2:48≤c.toNat∧c.toNat≤57:=by simpa [J4] using hdg
    have n46:¬(c.toNat:Int)=46:=by omega
    have m46:¬c.toNat=46:=by omega
    have e1:IntKind.u8.wrap ((c.toNat:Int) - 48)=((c.toNat - 48:Nat):Int):=by
     rw[wrap_u8 (by omega) (by have:=c.toNat_lt;omega)];omega
    have e2:IntKind.i64.wrap ((c.toNat - 48:Nat):Int)=((c.toNat - 48:Nat):Int):=Zf (by omega) (by omega)
    have hmt:Jo pt (s.drop i)=((c.toNat - 48)::(Jo pt (s.drop (i+1))).1,(if pt=true then 1 else 0)+(Jo pt (s.drop (i+1))).2.1,(Jo pt (s.drop (i+1))).2.2):=by rw[hd];simp[Jo,hdg]
    simp[go_sem,hdg,hc,n46,m46,e1,e2,NO.run,Y3]
    refine Sl.push (st0:=st0) (S:=[]) (x1.fr []) hm hv1 (y:= .int .i64 ((c.toNat - 48:Nat):Int)) rfl (by omega) (by omega) ?_
    intro v2 s2 o2 f2 m2 _
    have x2:Ext st0 s2:=f2.ext (by simp)
    rw[hmt]
    cases pt with
    | false=>
      simp[go_sem]
      refine(ih (i+1) (l++[c.toNat - 48]) ex false _ s2 v2 (by omega) (by simp;omega) (by omega) hx2 x2 (by rw[Zmw];simpa using o2) m2 (by simp[go_sem]) (by simp[go_sem,e6]) (by simp[go_sem]) (by simp[go_sem]) (by simp[go_sem]) (by simp[go_sem])).mono ?_
      rintro x e s h
      simpa using h
    | true=>
      have e9:IntKind.i64.wrap (ex - 1)=ex - 1:=Zf (by omega) (by omega)
      simp[go_sem]
      refine(ih (i+1) (l++[c.toNat - 48]) (ex - 1) true _ s2 v2 (by omega) (by simp;omega) (by omega) (by omega) x2 (by rw[Zmw];simpa using o2) m2 (by simp[go_sem]) (by simp[go_sem,e6]) (by simp[go_sem]) (by simp[go_sem]) (by simp[go_sem,e9]) (by simp[go_sem])).mono ?_
      rintro x e s ⟨a1,a2,a3,a4,a5,a6,a7,a8⟩
      refine⟨by simpa using a1,by simpa using a2,by simpa using a3,by simpa using a4,by simpa using a5,by simpa using a6,by simpa using a7,?_⟩
      rw[a8]
      congr 1
      omega
   ·have hdf:J4 c=false:=by simpa using hdg
    by_cases h46:c=46∧pt=false
    ·obtain⟨rfl,rfl⟩:=h46
     have hmt:Jo false (s.drop i)=Jo true (s.drop (i+1)):=by rw[hd];simp[Jo,J4]
     simp[go_sem,hdf,hc]
     rw[hmt]
     refine(ih (i+1) l ex true _ s1 v (by omega) (by omega) (by omega) hx2 x1 hv1 hm (by simp[go_sem]) (by simp[go_sem,e6]) (by simp[go_sem]) (by simp[go_sem]) (by simp[go_sem]) (by simp[go_sem])).mono fun x e s h=>by simpa using h
    ·have hmt:Jo pt (s.drop i)=([],0,c::s.drop (i+1)):=by rw[hd];simp[Jo,hdf,h46]
     rw[hmt,hstop]
     by_cases hc46:c=46
     ·subst hc46
      have hpt:pt=true:=by cases pt <;> simp at h46⊢
      subst hpt
      simp[go_sem,hdf,hc,x1,hv1,hm]
     ·have n46:¬(c.toNat:Int)=46:=Uj hc46 rfl
      have m46:¬c.toNat=46:=by omega
      simp[go_sem,hdf,hc,n46,m46,x1,hv1,hm]
theorem Zz9 (H:B.Kr T) {s:List UInt8} (hs:s.length<1000000000000) (sg ex:Int) (v:AV) (b:Bool) (st0:St):∀(m i n:Nat) (e:Env) (st1:St),i+m=s.length→m≤3→n<1000*10 ^ (3 - m)→Ext st0 st1→Zb e 0= .str s→Zb e 6= .int .i64 i→Zb e 7= .int .i64 sg→Zb e 8=v→Zb e 9= .int .i64 ex→Zb e 11= .bool b→Zb e 12= .int .i64 n→
  Res (run T (.loop B.L0) e st1) fun x e' s'=>Ext st0 s'∧
   if(Zw (s.drop i)).2=[]then x= .exit 2∧Zb e' 7= .int .i64 sg∧Zb e' 8=v∧Zb e' 9= .int .i64 ex∧Zb e' 11= .bool b∧Zb e' 12= .int .i64 (((Zw (s.drop i)).1.foldl (fun a d=>10*a+d) n:Nat):Int)
   else x= .ret∧Zb e' 2= .int .i64 0∧Zb e' 3= .Zk∧Zb e' 4= .int .i64 0∧Zb e' 5= .bool false:=by
 intro m
 induction m with
 | zero=>
   intro i n e st1 hi hm hn hx g0 g6 g7 g8 g9 g11 g12
   have:i=s.length:=by omega
   subst this
   have hd:s.drop s.length=[]:=by simp
   rw[hd,Zn]
   simp[B.L0,go_sem,g0,g6,g7,g8,g9,g11,g12,Zw,hx]
 | succ m ih=>
   intro i n e st1 hi hm hn hx g0 g6 g7 g8 g9 g11 g12
   have hil:(i:Int)<s.length:=by omega
   obtain⟨c,hc,hd⟩:=Z9 (s:=s) (i:=i) (by omega)
   have e6:IntKind.i64.wrap ((i:Int)+1)=((i+1:Nat):Int):=Zf (by omega) (by omega)
   have hn':n<1000000:=Nat.lt_of_lt_of_le hn (by
    have:10 ^ (3 - (m+1))≤10 ^ 3:=Nat.pow_le_pow_right (by omega) (by omega)
    omega)
   rw[Zn]
   simp[B.L0,go_sem,g0,g6,g7,g8,g9,g11,g12,hil,hc]
   refine(Td H.K7 hx.wf c).use fun s1 x1'=> ?_
   have x1:=hx.trans x1'
   by_cases hdg:J4 c=true
   ·have hd2:48≤c.toNat∧c.toNat≤57:=by simpa [J4] using hdg
    have e1:IntKind.u8.wrap ((c.toNat:Int) - 48)=((c.toNat - 48:Nat):Int):=by
     rw[wrap_u8 (by omega) (by have:=c.toNat_lt;omega)];omega
    have e2:IntKind.i64.wrap ((c.toNat - 48:Nat):Int)=((c.toNat - 48:Nat):Int):=Zf (by omega) (by omega)
    have e3:IntKind.i64.wrap (10*(n:Int))=10*n:=Zf (by omega) (by omega)
    have e4:IntKind.i64.wrap (10*(n:Int)+((c.toNat - 48:Nat):Int))=((10*n+(c.toNat - 48):Nat):Int):=by rw[Zf (by omega) (by omega)];omega
    have hsp:Zw (s.drop i)=((c.toNat - 48)::(Zw (s.drop (i+1))).1,(Zw (s.drop (i+1))).2):=by rw[hd];simp[Zw,hd2]
    rw[hsp]
    simp[go_sem,hdg,hc,e1,e2,e3,e4]
    refine(ih (i+1) (10*n+(c.toNat - 48)) _ s1 (by omega) (by omega) ?_ x1 (by simp[go_sem]) (by simp[go_sem,e6]) (by simp[go_sem]) (by simp[go_sem]) (by simp[go_sem]) (by simp[go_sem]) (by simp[go_sem,e4])).mono fun x e s h=>by simpa using h
    have h3:3 - m=(3 - (m+1))+1:=by omega
    have hp:0<10 ^ (3 - (m+1)):=Nat.pow_pos (by omega)
    rw[h3,Nat.pow_succ]
    omega
   ·have hdf:J4 c=false:=by simpa using hdg
    have hd2:¬(48≤c.toNat∧c.toNat≤57):=by simpa [J4] using hdg
    have hsp:Zw (s.drop i)=([],c::s.drop (i+1)):=by rw[hd];simp[Zw,hd2]
    rw[hsp]
    simp[go_sem,hdf,x1]
end Go.Ev

/- The reference's Read told. -/
namespace Go.Ev
open Go
variable {T : Tab} {st : St}
def Zx.a:Zx→Zx
 | .seq x _=>x
 | c=>c
def Zx.b:Zx→Zx
 | .seq _ y=>y
 | c=>c
theorem Qq (x y:Zx):(Zx.seq x y).a=x∧(Zx.seq x y).b=y:=⟨rfl,rfl⟩
theorem Ze7 (s:List UInt8):(sgn s).2=s.drop (s.length - (sgn s).2.length)∧(sgn s).2.length≤s.length∧s.length≤(sgn s).2.length+1:=by
 cases s with
 | nil=>simp[sgn]
 | cons c r=>
   simp only[sgn]
   split
   ·simp
   ·split <;> simp
def Dn (s:List UInt8):Option (Bool×List Nat×Int):=
 let m:=Jo false (sgn s).2
 if m.1=[]then none
 else match m.2.2 with
  | []=>some ((sgn s).1,m.1, -(m.2.1:Int))
  | c::t=>
    if c≠101∧c≠69 then none
    else if(sgn t).2.length<1∨3<(sgn t).2.length then none
    else if(Zw (sgn t).2).2=[]then some ((sgn s).1,m.1, -(m.2.1:Int)+(if(sgn t).1=true then -(Qz (Zw (sgn t).2).1:Int)else(Qz (Zw (sgn t).2).1:Int)))
    else none
def Ek (b:Bool):Int:=if b=true then -1 else 1
def rb:Nat→Zx
 | 0=>B.Zu.body
 | k+1=>(rb k).b
theorem cut {T:Tab} {c:Zx} (hc:c= .seq c.a c.b) (hA:∀l,c.a≠.Zi l) {e:Env} {Q:Ex→Env→St→Prop} (P:Ex→Env→St→Prop) (h1:Res (run T c.a e st) P) (h2:∀x e s,P x e s→Zvp T c.b Q x e s):Res (run T c e st) Q:=by
 rw[hc]
 exact Fs P hA h1 h2
theorem Zwb {s:List UInt8} (hs:s.length<1000000000000) {e:Env} (g0:Zb e 0= .str s) (g6:Zb e 6= .int .i64 0) (g7:Zb e 7= .int .i64 1):
  Res (run T (rb 2).a e st) fun x e' s'=>x= .norm∧s'=st∧Zb e' 0= .str s∧Zb e' 6= .int .i64 ((s.length - (sgn s).2.length:Nat):Int)∧Zb e' 7= .int .i64 (Ek (sgn s).1):=by
 simp only[rb,B.Zu,Qq]
 cases s with
 | nil=>simp[go_sem,g0,g6,g7,sgn,Ek]
 | cons c r=>
   by_cases h43:c=43
   ·subst h43
    simp[go_sem,g0,g6,g7,sgn,Ek]
    rfl
   ·by_cases h45:c=45
    ·subst h45
     simp[go_sem,g0,g6,g7,sgn,Ek]
     rfl
    ·have n1:¬(c.toNat:Int)=43:=Uj h43 rfl
     have n2:¬(c.toNat:Int)=45:=Uj h45 rfl
     have m1:¬c.toNat=43:=by omega
     have m2:¬c.toNat=45:=by omega
     simp[go_sem,g0,g6,g7,sgn,Ek,h43,h45,n1,n2,m1,m2]
theorem Ztj {s t:List UInt8} {i:Nat} (hs:s.length<1000000000000) (hi:i≤s.length) (ht:s.drop i=t) {e:Env} {sg ex:Int} {v:AV} (g0:Zb e 0= .str s) (g6:Zb e 6= .int .i64 i) (g7:Zb e 7= .int .i64 sg) (g8:Zb e 8=v) (g9:Zb e 9= .int .i64 ex) (g11:Zb e 11= .bool false):
  Res (run T (rb 15).a e st) fun x e' s'=>x= .norm∧s'=st∧Zb e' 0= .str s∧Zb e' 6= .int .i64 ((s.length - (sgn t).2.length:Nat):Int)∧Zb e' 7= .int .i64 sg∧Zb e' 8=v∧Zb e' 9= .int .i64 ex∧Zb e' 11= .bool (sgn t).1:=by
 simp only[rb,B.Zu,Qq]
 have hl:=congrArg List.length ht
 rw[List.length_drop]at hl
 cases t with
 | nil=>
   have:i=s.length:=by simp at hl;omega
   subst this
   simp[go_sem,g0,g6,g7,g8,g9,g11,sgn]
 | cons c r=>
   simp only[List.length_cons]at hl
   have hil:i<s.length:=by omega
   have hil':(i:Int)<s.length:=by omega
   obtain⟨c',hc,hd⟩:=Z9 hil
   rw[ht]at hd
   injection hd with h1 h2
   subst h1
   have e6:IntKind.i64.wrap ((i:Int)+1)=((i+1:Nat):Int):=Zf (by omega) (by omega)
   have e7:s.length - r.length=i+1:=by omega
   have e8:s.length - (c::r).length=i:=by simp only[List.length_cons];omega
   by_cases h43:c=43
   ·subst h43
    simp[go_sem,g0,g6,g7,g8,g9,g11,sgn,hil',hc,e7]
    exact e6
   ·by_cases h45:c=45
    ·subst h45
     simp[go_sem,g0,g6,g7,g8,g9,g11,sgn,hil',hc,e7]
     exact e6
    ·have n1:¬(c.toNat:Int)=43:=Uj h43 rfl
     have n2:¬(c.toNat:Int)=45:=Uj h45 rfl
     have m1:¬c.toNat=43:=by omega
     have m2:¬c.toNat=45:=by omega
     simp only[List.length_cons]at e8
     simp[go_sem,g0,g6,g7,g8,g9,g11,sgn,h43,h45,n1,n2,m1,m2,hil',hc,e8]
def Pd (st:St) (U:Option (Bool×List Nat×Int)) (x:Ex) (e':Env) (s':St):Prop:=
 (x= .norm∨x= .ret)∧Ext st s'∧match U with
   | none=>Zb e' 2= .int .i64 0∧Zb e' 3= .Zk∧Zb e' 4= .int .i64 0∧Zb e' 5= .bool false
   | some (neg,l,ex)=>Zb e' 2= .int .i64 (Ek neg)∧Sl s' (Zb e' 3) 3 1 l.length (Wm l)∧Zb e' 4= .int .i64 ex∧Zb e' 5= .bool true
theorem Zx9 (H:B.Kr T) {s u:List UInt8} {i:Nat} (hs:s.length<1000000000000) (hi:i≤s.length) (hu:s.drop i=u) {e:Env} {neg b:Bool} {ex:Int} {l:List Nat} {v:AV} {st0:St} (hx:Ext st0 st) (hv:Sl st v 3 1 l.length (Wm l)) (hex: -1000000000000≤ex∧ex≤0)
  (g0:Zb e 0= .str s) (g6:Zb e 6= .int .i64 i) (g7:Zb e 7= .int .i64 (Ek neg)) (g8:Zb e 8=v) (g9:Zb e 9= .int .i64 ex) (g11:Zb e 11= .bool b):
  Res (run T (rb 16) e st) (Pd st0 (if u.length<1∨3<u.length then none else if(Zw u).2=[]then some (neg,l,ex+(if b=true then -(Qz (Zw u).1:Int)else(Qz (Zw u).1:Int)))else none)):=by
 have hl:=congrArg List.length hu
 rw[List.length_drop]at hl
 have ew:IntKind.i64.wrap ((s.length:Int) - i)=(u.length:Int):=by rw[Zf (by omega) (by omega)];omega
 simp only[rb,B.Zu,Qq]
 by_cases h1:u.length<1
 ·rw[if_pos (.inl h1)]
  have h1':(u.length:Int)<1:=by omega
  simp[go_sem,g0,g6,g7,g8,g9,g11,ew,h1',Pd,hx]
 have h1':¬(u.length:Int)<1:=by omega
 by_cases h3:3<u.length
 ·rw[if_pos (.inr h3)]
  have h3':(3:Int)<u.length:=by omega
  simp[go_sem,g0,g6,g7,g8,g9,g11,ew,h1',h3',Pd,hx]
 have h3':¬(3:Int)<u.length:=by omega
 rw[if_neg (by omega)]
 have hnb:Qz (Zw u).1<1000:=by
  have hlu:=Wv u
  refine Nat.lt_of_lt_of_le (Oy (fun d hd=>Dr _ d hd)) ?_
  exact Nat.le_trans (Nat.pow_le_pow_right (by omega) (show _≤3 by omega)) (by omega)
 have hfo:(Zw u).1.foldl (fun a d=>10*a+d) 0=Qz (Zw u).1:=rfl
 simp[go_sem,g0,g6,g7,g8,g9,g11,ew,h1',h3']
 refine(Zz9 H hs (Ek neg) ex v b st u.length i 0 _ st (by omega) (by omega) (Nat.mul_pos (by omega) (Nat.pow_pos (by omega))) (.refl hx.wf) (by simp[go_sem]) (by simp[go_sem]) (by simp[go_sem]) (by simp[go_sem]) (by simp[go_sem]) (by simp[go_sem]) (by simp[go_sem])).mono ?_
 rw[hu,hfo]
 rintro x e' s' ⟨x1',hh⟩
 have x1:=hx.trans x1'
 have hv1:=hv.ext x1' hx.wf
 generalize Qz (Zw u).1=N at hh hnb⊢
 by_cases hz:(Zw u).2=[]
 ·rw[if_pos hz]at hh
  obtain⟨rfl,k7,k8,k9,k11,k12⟩:=hh
  rw[if_pos hz]
  have en:IntKind.i64.wrap (-(N:Int))= -N:=Zf (by omega) (by omega)
  have ea:IntKind.i64.wrap (ex+ -(N:Int))=ex+ -N:=Zf (by omega) (by omega)
  have eb:IntKind.i64.wrap (ex+(N:Int))=ex+N:=Zf (by omega) (by omega)
  cases b with
  | true=>simp[go_sem,Pd,k7,k8,k9,k11,k12,x1,en,ea,hv1]
  | false=>simp[go_sem,Pd,k7,k8,k9,k11,k12,x1,eb,hv1]
 ·rw[if_neg hz]at hh
  obtain⟨rfl,k2,k3,k4,k5⟩:=hh
  rw[if_neg hz]
  simp[go_sem,Pd,k2,k3,k4,k5,x1]
def E5 (s:List UInt8) (i:Nat) (sg:Int) (v:AV) (ex:Int) (e:Env):Prop:=Zb e 0= .str s∧Zb e 6= .int .i64 i∧Zb e 7= .int .i64 sg∧Zb e 8=v∧Zb e 9= .int .i64 ex
def Zta (neg:Bool) (l:List Nat) (ex:Int):List UInt8→Option (Bool×List Nat×Int)
 | []=>some (neg,l,ex)
 | c::t=>if c≠101∧c≠69 then none
   else if(sgn t).2.length<1∨3<(sgn t).2.length then none
   else if(Zw (sgn t).2).2=[]then some (neg,l,ex+(if(sgn t).1=true then -(Qz (Zw (sgn t).2).1:Int)else(Qz (Zw (sgn t).2).1:Int)))
   else none
theorem Zya (H:B.Kr T) {s:List UInt8} {i:Nat} (hs:s.length<1000000000000) (hi:i≤s.length) {e:Env} {neg:Bool} {ex:Int} {l:List Nat} {n:Nat} {cp:Cap} {st0:St} (hx:Ext st0 st) (hv:Sl st (.slice n 0 l.length cp) 3 1 l.length (Wm l)) (hex: -1000000000000≤ex∧ex≤0)
  (h5:E5 s i (Ek neg) (.slice n 0 l.length cp) ex e):
  Res (run T (rb 8) e st) (Pd st0 (if l=[]then none else Zta neg l ex (s.drop i))):=by
 obtain⟨g0,g6,g7,g8,g9⟩:=id h5
 by_cases hl:l=[]
 ·subst hl
  simp only[rb,B.Zu,Qq]
  simp[go_sem,g0,g6,g7,g8,g9,Pd,hx]
 rw[if_neg hl]
 have hlen:¬l.length=0:=fun h=>hl (List.length_eq_zero_iff.1 h)
 have hlen':¬(l.length:Int)=0:=by omega
 refine cut (c:=rb 8) rfl (by intro l;simp[rb,B.Zu,Qq]) (fun x e' s'=>x= .norm∧s'=st∧E5 s i (Ek neg) (.slice n 0 l.length cp) ex e') ?_ ?_
 ·simp only[rb,B.Zu,Qq]
  simp[go_sem,g0,g6,g7,g8,g9,hlen,hlen',E5]
 rintro _ e1 s1 ⟨rfl,hst,h51⟩
 rw[Qw,hst]
 clear hst
 clear g0 g6 g7 g8 g9
 obtain⟨g0,g6,g7,g8,g9⟩:=id h51
 by_cases hil:i=s.length
 ·subst hil
  have hd:s.drop s.length=[]:=by simp
  rw[hd]
  show Res (run T (rb 9) e1 _) _
  simp only[rb,B.Zu,Qq]
  simp[go_sem,g0,g6,g7,g8,g9,Zta,Pd,hx,hv]
 have hil1:i<s.length:=by omega
 have hil2:¬(i:Int)=s.length:=by omega
 obtain⟨c,hc,hd⟩:=Z9 hil1
 refine cut (c:=rb 9) rfl (by intro l;simp[rb,B.Zu,Qq]) (fun x e' s'=>x= .norm∧s'=st∧E5 s i (Ek neg) (.slice n 0 l.length cp) ex e') ?_ ?_
 ·simp only[rb,B.Zu,Qq]
  simp[go_sem,g0,g6,g7,g8,g9,hil,hil2,E5]
 rintro _ e2 s2 ⟨rfl,hst,h52⟩
 rw[Qw,hst]
 clear hst g0 g6 g7 g8 g9
 obtain⟨g0,g6,g7,g8,g9⟩:=id h52
 show Res (run T (.seq (.Zi [0,6,7,8,9]) (rb 11)) e2 st) _
 rw[Dp]
 have h53:E5 s i (Ek neg) (.slice n 0 l.length cp) ex (Jh [0,6,7,8,9] e2):=by simp[E5,Jh,Zb,g0,g6,g7,g8,g9]
 generalize Jh [0,6,7,8,9] e2=e3 at h53
 clear g0 g6 g7 g8 g9
 obtain⟨g0,g6,g7,g8,g9⟩:=id h53
 have hil3:(i:Int)<s.length:=by omega
 rw[hd]
 by_cases hE:c≠101∧c≠69
 ·have n1:¬(c.toNat:Int)=101:=Uj hE.1 rfl
  have n2:¬(c.toNat:Int)=69:=Uj hE.2 rfl
  have m1:¬c.toNat=101:=by omega
  have m2:¬c.toNat=69:=by omega
  simp only[Zta]
  rw[if_pos hE]
  simp only[rb,B.Zu,Qq]
  simp[go_sem,g0,g6,g7,g8,g9,hc,n1,n2,m1,m2,Pd,hx]
 simp only[Zta]
 rw[if_neg hE]
 refine cut (c:=rb 11) rfl (by intro l;simp[rb,B.Zu,Qq]) (fun x e' s'=>x= .norm∧s'=st∧E5 s i (Ek neg) (.slice n 0 l.length cp) ex e') ?_ ?_
 ·have hcn:(c.toNat:Int)=101∨(c.toNat:Int)=69:=by
   by_cases h:c=101
   ·subst h;simp
   ·by_cases h':c=69
    ·subst h';simp
    ·exact absurd ⟨h,h'⟩ hE
  obtain⟨nn,hnn⟩:∃nn:Int,nn=c.toNat:=⟨_,rfl⟩
  rw[←hnn]at hcn
  simp only[rb,B.Zu,Qq]
  rcases hcn with rfl | rfl
  ·simp[go_sem,g0,g6,g7,g8,g9,hc,←hnn,E5]
  ·simp[go_sem,g0,g6,g7,g8,g9,hc,←hnn,E5]
 rintro _ e4 s4 ⟨rfl,hst,h54⟩
 rw[Qw,hst]
 clear hst g0 g6 g7 g8 g9
 obtain⟨g0,g6,g7,g8,g9⟩:=id h54
 show Res (run T (.seq (.Zi [0,6,7,8,9]) (rb 13)) e4 st) _
 rw[Dp]
 have h55:E5 s i (Ek neg) (.slice n 0 l.length cp) ex (Jh [0,6,7,8,9] e4):=by simp[E5,Jh,Zb,g0,g6,g7,g8,g9]
 generalize Jh [0,6,7,8,9] e4=e5 at h55
 clear g0 g6 g7 g8 g9
 obtain⟨g0,g6,g7,g8,g9⟩:=id h55
 have e6:IntKind.i64.wrap ((i:Int)+1)=((i+1:Nat):Int):=Zf (by omega) (by omega)
 refine cut (c:=rb 13) rfl (by intro l;simp[rb,B.Zu,Qq]) (fun x e' s'=>x= .norm∧s'=st∧E5 s (i+1) (Ek neg) (.slice n 0 l.length cp) ex e') ?_ ?_
 ·simp only[rb,B.Zu,Qq]
  simp[go_sem,g0,g6,g7,g8,g9,E5,e6]
 rintro _ e6' s6 ⟨rfl,hst,h56⟩
 rw[Qw,hst]
 clear hst g0 g6 g7 g8 g9 e6
 obtain⟨g0,g6,g7,g8,g9⟩:=id h56
 refine cut (c:=rb 14) rfl (by intro l;simp[rb,B.Zu,Qq]) (fun x e' s'=>x= .norm∧s'=st∧E5 s (i+1) (Ek neg) (.slice n 0 l.length cp) ex e'∧Zb e' 11= .bool false) ?_ ?_
 ·simp only[rb,B.Zu,Qq]
  simp[go_sem,g0,g6,g7,g8,g9,E5]
 rintro _ e7 s7 ⟨rfl,hst,h57,g11⟩
 rw[Qw,hst]
 clear hst g0 g6 g7 g8 g9
 obtain⟨g0,g6,g7,g8,g9⟩:=id h57
 refine cut (c:=rb 15) rfl (by intro l;simp[rb,B.Zu,Qq]) _ (Ztj (t:=s.drop (i+1)) hs (by omega) rfl g0 g6 g7 g8 g9 g11) ?_
 rintro _ e8 s8 ⟨rfl,hst,k0,k6,k7,k8,k9,k11⟩
 rw[Qw,hst]
 obtain⟨z1,z2,z3⟩:=Ze7 (s.drop (i+1))
 rw[List.length_drop]at z2 z3
 have hdr:s.drop (s.length - (sgn (s.drop (i+1))).2.length)=(sgn (s.drop (i+1))).2:=by
  conv=>rhs;rw[z1]
  rw[List.drop_drop,List.length_drop]
  congr 1
  omega
 exact Zx9 H hs (by omega) hdr hx hv hex k0 k6 k7 k8 k9 k11
theorem As:∀(pt:Bool) (r:List UInt8),∃k,(Jo pt r).2.2=r.drop k∧k≤r.length
 | _,[]=>⟨0,by simp[Jo]⟩
 | pt,c::r=>by
   simp only[Jo]
   split
   ·obtain⟨k,h1,h2⟩:=As pt r
    exact⟨k+1,by simp[h1],by simp;omega⟩
   ·split
    ·obtain⟨k,h1,h2⟩:=As true r
     exact⟨k+1,by simp[h1],by simp;omega⟩
    ·exact⟨0,by simp⟩
theorem Sl.cases {s:St} {v:AV} {ty es k:Nat} {cs:List AV} (a:Sl s v ty es k cs):(v= .Zk∧cs=[]∧k=0)∨∃n cp,v= .slice n 0 k cp:=by
 obtain⟨n,a⟩:=a
 rcases a with ⟨h1,h2,h3⟩ | ⟨h1,h2,h3⟩ | ⟨ty',h1,h2,h3⟩
 ·exact .inl ⟨h1,h2,h3⟩
 ·exact .inr ⟨n,_,h1⟩
 ·exact .inr ⟨n,_,h1⟩
theorem Zv8 (s:List UInt8):Dn s=if(Jo false (sgn s).2).1=[]then none else Zta (sgn s).1 (Jo false (sgn s).2).1 (0 - ((Jo false (sgn s).2).2.1:Int)) (Jo false (sgn s).2).2.2:=by
 unfold Dn
 simp only
 split
 ·rfl
 ·cases (Jo false (sgn s).2).2.2 with
  | nil=>simp[Zta]
  | cons c t=>
    simp only[Zta,Int.zero_sub]
theorem Zkf (H:B.Kr T) (hwf:st.Wf) {s:List UInt8} (hs:s.length<1000000000000):
  Jg (call T (.fn 80 [] []) [.str s] st) fun v s'=>Ext st s'∧match Dn s with
   | none=>v= .tuple [.int .i64 0,.Zk,.int .i64 0,.bool false]
   | some (neg,l,ex)=>∃sv,v= .tuple [.int .i64 (Ek neg),sv,.int .i64 ex,.bool true]∧Sl s' sv 3 1 l.length (Wm l):=by
 refine Q3 H.e H.f rfl ?_
 have main:Res (run T (rb 0) (Ul 0 ([]++[.str s]++[])) st) (Pd st (Dn s)):=by
  refine cut (c:=rb 0) rfl (by intro l;simp[rb,B.Zu,Qq]) (fun x e' s'=>x= .norm∧s'=st∧Zb e' 0= .str s) ?_ ?_
  ·simp only[rb,B.Zu,Qq]
   simp[go_sem]
  rintro _ e1 s1 ⟨rfl,hst,g0⟩
  rw[Qw,hst]
  clear hst
  refine cut (c:=rb 1) rfl (by intro l;simp[rb,B.Zu,Qq]) (fun x e' s'=>x= .norm∧s'=st∧Zb e' 0= .str s∧Zb e' 6= .int .i64 0∧Zb e' 7= .int .i64 1) ?_ ?_
  ·simp only[rb,B.Zu,Qq]
   simp[go_sem,g0]
  rintro _ e2 s2 ⟨rfl,hst,g0,g6,g7⟩
  rw[Qw,hst]
  clear hst
  refine cut (c:=rb 2) rfl (by intro l;simp[rb,B.Zu,Qq]) _ (Zwb hs g0 g6 g7) ?_
  rintro _ e3 s3 ⟨rfl,hst,g0,g6,g7⟩
  rw[Qw,hst]
  clear hst
  show Res (run T (.seq (.Zi [0,6,7]) (rb 4)) e3 st) _
  rw[Dp]
  have h4:Zb (Jh [0,6,7] e3) 0= .str s∧Zb (Jh [0,6,7] e3) 6= .int .i64 ((s.length - (sgn s).2.length:Nat):Int)∧Zb (Jh [0,6,7] e3) 7= .int .i64 (Ek (sgn s).1):=by simp[Jh,Zb,g0,g6,g7]
  generalize Jh [0,6,7] e3=e4 at h4
  obtain⟨k0,k6,k7⟩:=h4
  refine cut (c:=rb 4) rfl (by intro l;simp[rb,B.Zu,Qq]) (fun x e' s'=>x= .norm∧s'=st∧Zb e' 0= .str s∧Zb e' 6= .int .i64 ((s.length - (sgn s).2.length:Nat):Int)∧Zb e' 7= .int .i64 (Ek (sgn s).1)∧Zb e' 8= .Zk) ?_ ?_
  ·simp only[rb,B.Zu,Qq]
   simp[go_sem,k0,k6,k7]
  rintro _ e5 s5 ⟨rfl,hst,j0,j6,j7,j8⟩
  rw[Qw,hst]
  clear hst
  refine cut (c:=rb 5) rfl (by intro l;simp[rb,B.Zu,Qq]) (fun x e' s'=>x= .norm∧s'=st∧Zb e' 0= .str s∧Zb e' 6= .int .i64 ((s.length - (sgn s).2.length:Nat):Int)∧Zb e' 7= .int .i64 (Ek (sgn s).1)∧Zb e' 8= .Zk∧Zb e' 9= .int .i64 0∧Zb e' 10= .bool false) ?_ ?_
  ·simp only[rb,B.Zu,Qq]
   simp[go_sem,j0,j6,j7,j8]
  rintro _ e6 s6 ⟨rfl,hst,i0,i6,i7,i8,i9,i10⟩
  rw[Qw,hst]
  clear hst
  obtain⟨z1,z2,z3⟩:=Ze7 s
  obtain⟨k,y1,y2⟩:=As false (sgn s).2
  have hml:=Ar false (sgn s).2
  refine cut (c:=rb 6) rfl (by intro l;simp[rb,B.Zu,Qq]) (fun x e' s'=>x= .norm∧Ext st s'∧Zb e' 0= .str s∧Zb e' 6= .int .i64 ((s.length - (Jo false (sgn s).2).2.2.length:Nat):Int)∧Zb e' 7= .int .i64 (Ek (sgn s).1)∧Sl s' (Zb e' 8) 3 1 (Jo false (sgn s).2).1.length (Wm (Jo false (sgn s).2).1)∧Zb e' 9= .int .i64 (0 - ((Jo false (sgn s).2).2.1:Int))) ?_ ?_
  ·show Res (run T (.block 0 (.loop B.U5)) e6 st) _
   simp only[Zna,Zit]
   refine(Zz8 H hs (Ek (sgn s).1) st (s.length - (s.length - (sgn s).2.length)) (s.length - (sgn s).2.length) [] 0 false e6 st .Zk (by omega) (by simp) (by omega) (by omega) (.refl hwf) (.nil _ _ _) (Xg.nil _ _) i0 i6 i7 i8 i9 i10).mono ?_
   rw[←z1]
   rintro x e s' ⟨rfl,a1,a2,a3,a4,a5,a6,a7⟩
   simp only[List.nil_append]at a5
   simp[go_sem,a1,a2,a3,a4,a5,a7]
  rintro _ e7 s7 ⟨rfl,x7,j0,j6,j7,j8,j9⟩
  rw[Qw]
  show Res (run T (.seq (.Zi [0,6,7,8,9]) (rb 8)) e7 s7) _
  rw[Dp]
  rw[Zv8]
  have hdr:s.drop (s.length - (Jo false (sgn s).2).2.2.length)=(Jo false (sgn s).2).2.2:=by
   rw[y1,z1,List.drop_drop,List.length_drop]
   congr 1
   omega
  have hil:s.length - (Jo false (sgn s).2).2.2.length≤s.length:=by omega
  have hex: -1000000000000≤(0 - ((Jo false (sgn s).2).2.1:Int))∧(0 - ((Jo false (sgn s).2).2.1:Int))≤0:=by omega
  generalize (Jo false (sgn s).2).2.2=rest at*
  generalize 0 - ((Jo false (sgn s).2).2.1:Int)=ex at*
  generalize (Jo false (sgn s).2).1=l at*
  generalize s.length - rest.length=i1 at*
  rcases j8.cases with ⟨h1,h2,h3⟩ | ⟨n,cp,h1⟩
  ·have:l=[]:=List.length_eq_zero_iff.1 h3
   subst this
   simp only[rb,B.Zu,Qq]
   simp[go_sem,j0,j6,j7,h1,j9,Pd,x7]
  ·rw[h1]at j8
   have h55:E5 s i1 (Ek (sgn s).1) (.slice n 0 l.length cp) ex (Jh [0,6,7,8,9] e7):=by simp[E5,Jh,Zb,j0,j6,j7,h1,j9]
   have:=Zya H hs hil x7 j8 hex h55
   rw[hdr]at this
   exact this
 refine main.mono ?_
 rintro x e s' ⟨hx,x1,hU⟩
 refine⟨hx,_,rfl,?_⟩
 cases hr:Dn s with
 | none=>
   rw[hr]at hU
   obtain⟨k2,k3,k4,k5⟩:=hU
   exact⟨x1.Zp,by simp[B.Zu,Zr,k2,k3,k4,k5]⟩
 | some p=>
   obtain⟨neg,l,ex⟩:=p
   rw[hr]at hU
   obtain⟨k2,k3,k4,k5⟩:=hU
   exact⟨x1.Zp,_,by simp[B.Zu,Zr,k2,k4,k5],k3.Zp x1.wf⟩
end Go.Ev

/- Digits multiplied. -/
namespace Go.Ev
open Go
variable {T : Tab} {st : St}
def Mu:List Nat→List Nat×Nat
 | []=>([],0)
 | d::l=>((131072*d+(Mu l).2) % 10::(Mu l).1,(131072*d+(Mu l).2) / 10)
def pad:Nat→Nat→List Nat
 | 0,_=>[]
 | k+1,c=>pad k (c / 10)++[c % 10]
def Me (l:List Nat):List Nat:=pad 6 (Mu l).2++(Mu l).1
theorem Bg:∀l,(Mu l).1.length=l.length
 | []=>rfl
 | d::l=>by simp[Mu,Bg l]
theorem Zik:∀k c,(pad k c).length=k
 | 0,_=>rfl
 | k+1,c=>by simp[pad,Zik k]
theorem Zih:∀l,(∀d∈l,d<10)→(Mu l).2<131072
 | [],_=>by simp[Mu]
 | d::l,h=>by
   have h1:=Zih l fun x hx=>h x (List.mem_cons_of_mem _ hx)
   have h2:=h d List.mem_cons_self
   simp only[Mu];omega
theorem Zj3:∀l,∀d∈(Mu l).1,d<10
 | [],d,h=>by cases h
 | x::l,d,h=>by
   simp only[Mu]at h
   rcases List.mem_cons.1 h with rfl | h
   ·omega
   ·exact Zj3 l d h
theorem Zou:∀k c,∀d∈pad k c,d<10
 | 0,_,d,h=>by cases h
 | k+1,c,d,h=>by
   simp only[pad]at h
   rcases List.mem_append.1 h with h | h
   ·exact Zou k _ d h
   ·simp at h;omega
theorem Zrr (p q:Nat) (X:List Nat):(Wm (List.replicate (p+1) 0++X)).set p (.int .i64 (q:Int))=Wm (List.replicate p 0++(q::X)):=by
 have h:(Wm (List.replicate p 0)).length=p:=by simp[Wm]
 rw[List.replicate_succ',List.append_assoc]
 simp only[Wm,List.map_append]at h⊢
 rw[List.set_append_right _ _ (by omega),h]
 simp
theorem mulw {d c N:Nat} (hd10:d<10) (hc:c<131072) (hN:N=131072*d+c):N<1310720∧IntKind.i64.wrap ((d:Int)*131072)=d*131072∧IntKind.i64.wrap ((d:Int)*131072+c)=(N:Int)∧IntKind.i64.wrap ((N / 10:Nat):Int)=((N / 10:Nat):Int):=by
 have h:N<1310720:=by omega
 refine⟨h,Zf (by omega) (by omega),?_,Zf (by omega) (by omega)⟩
 rw[Zf (by omega) (by omega)];omega
theorem Zt9 (N:Nat):(N:Int).tmod 10=((N % 10:Nat):Int)∧(N:Int).tdiv 10=((N / 10:Nat):Int):=by
 refine⟨?_,?_⟩
 ·rw[Int.tmod_eq_emod_of_nonneg (by omega)];omega
 ·rw[Int.tdiv_eq_ediv_of_nonneg (by omega)];omega
theorem idx6 {m k:Nat} (h:m<k) (hk:k≤1000000):IntKind.i64.wrap ((m:Int)+6)=((m+6:Nat):Int)∧IntKind.i64.wrap ((m:Int) - 1)=(m:Int) - 1:=by
 refine⟨?_,Zf (by omega) (by omega)⟩
 rw[Zf (by omega) (by omega)];omega
theorem Zyn {sv:AV} {l:List Nat} {n:Nat} (hk:l.length≤1000000) (hd:∀d∈l,d<10) (st0:St) (hn:st0.nx≤n) (hsv:∀m∈sv.nms,m≠n):∀(m:Nat) (e:Env) (st1:St),m≤l.length→Ext st0 st1→Rd st1.h sv 1 l.length (Wm l)→Zh st1.h n=some (.cells 3 false (Wm (List.replicate (6+m) 0++(Mu (l.drop m)).1)))→Zb e 0=sv→Zb e 3= .slice n 0 (l.length+6) (.known (l.length+6))→Zb e 4= .int .i64 ((Mu (l.drop m)).2:Nat)→Zb e 5= .int .i64 ((m:Int) - 1)→
  Res (run T (.loop B.Xt) e st1) fun x e' s'=>x= .exit 0∧Ext st0 s'∧Zh s'.h n=some (.cells 3 false (Wm (List.replicate 6 0++(Mu l).1)))∧Zb e' 3= .slice n 0 (l.length+6) (.known (l.length+6))∧Zb e' 4= .int .i64 ((Mu l).2:Nat):=by
 intro m
 induction m with
 | zero=>
   intro e st1 hm hx hr hg g0 g3 g4 g5
   rw[Zn]
   simp at hg
   simp[B.Xt,go_sem,g0,g3,g4,g5,hx]
   exact hg
 | succ m ih=>
   intro e st1 hm hx hr hg g0 g3 g4 g5
   have hml:m<l.length:=by omega
   obtain⟨d,hdm,hdr⟩:∃d,l[m]? =some d∧l.drop m=d::l.drop (m+1):=⟨l[m],List.getElem?_eq_getElem hml,List.drop_eq_getElem_cons hml⟩
   have hd10:d<10:=hd d (List.mem_of_getElem? hdm)
   have hc:=Zih (l.drop (m+1)) fun x hx=>hd x (List.mem_of_mem_drop hx)
   have hmu:Mu (l.drop m)=((131072*d+(Mu (l.drop (m+1))).2) % 10::(Mu (l.drop (m+1))).1,(131072*d+(Mu (l.drop (m+1))).2) / 10):=by rw[hdr];simp only[Mu]
   have hlen1:=Bg (l.drop (m+1))
   generalize Mu (l.drop (m+1))=M at hg g4 hc hmu hlen1
   obtain⟨M1,M2⟩:=M
   simp only at hg g4 hc hmu hlen1
   have e5:((m+1:Nat):Int) - 1=(m:Int):=by omega
   rw[e5]at g5
   obtain⟨N,hN⟩:∃N,N=131072*d+M2:=⟨_,rfl⟩
   obtain⟨hNb,w1,w2,w6⟩:=mulw hd10 hc hN
   obtain⟨w4,w5⟩:=Zt9 N
   obtain⟨w3,w7⟩:=idx6 hml hk
   obtain⟨nn,off,cp,hsvs,hrr⟩:∃nn off cp,sv= .slice nn off l.length cp∧Zo st1.h nn (off+m)=some (.int .i64 (d:Int)):=by
    rcases hr with ⟨h1,h2,h3⟩ | ⟨nn,off,cp,h1,h2⟩
    ·omega
    ·refine⟨nn,off,cp,h1,?_⟩
     rw[G9 h2 (by omega)]
     simp[Wm,hdm]
   have hw:Z5 st1.h n (m+6) [.int .i64 ((N % 10:Nat):Int)]=some (Qi st1.h n (.cells 3 false (Wm (List.replicate (6+m) 0++(N % 10::M1))))):=by
    rw[Y8 hg rfl (by rw[Zjq];simp;omega),show m+6=6+m by omega,show 6+(m+1)=(6+m)+1 by omega,Zrr]
   have f1:=Frm.set hx.wf hg (o:= .cells 3 false (Wm (List.replicate (6+m) 0++(N % 10::M1))))
   have x1:Ext st0 ⟨Qi st1.h n (.cells 3 false (Wm (List.replicate (6+m) 0++(N % 10::M1)))),st1.nx⟩:=hx.Yo f1 (by simpa using hn)
   have r1:Rd (Qi st1.h n (.cells 3 false (Wm (List.replicate (6+m) 0++(N % 10::M1))))) sv 1 l.length (Wm l):=hr.Yo f1 hx.wf (fun k hk hk'=>by simp at hk';exact hsv k hk hk')
   have g1:Zh (Qi st1.h n (.cells 3 false (Wm (List.replicate (6+m) 0++(N % 10::M1))))) n=some (.cells 3 false (Wm (List.replicate (6+m) 0++(N % 10::M1)))):=Zc hg
   rw[←hN]at hmu
   rw[show (N % 10::M1)=(Mu (l.drop m)).1 by rw[hmu]]at hw x1 r1 g1
   rw[show N / 10=(Mu (l.drop m)).2 by rw[hmu]]at w5 w6
   clear f1
   generalize Mu (l.drop m)=MM at hw x1 r1 g1 w5 w6 ih
   generalize N % 10=R at w4 hw
   have hml':(m:Int)<l.length:=by omega
   have hm6:((m+6:Nat):Int)<(l.length+6:Nat):=by omega
   obtain⟨q,hq⟩:∃q,q=m+6:=⟨_,rfl⟩
   have hq6:(q:Int)<(l.length:Int)+6:=by omega
   rw[←hq]at w3 hw hm6
   rw[Zn]
   simp[B.Xt,go_sem,g0,g3,g4,g5,hsvs,RO.run,WO.run,hml',hrr,w1,w2,w3,w4,w5,w6,hq6,hw]
   refine ih _ _ (by omega) x1 r1 g1 ?_ ?_ ?_ ?_
   ·simp[go_sem,hsvs]
   ·simp[go_sem]
   ·simp[go_sem,w5,w6]
   ·simp[go_sem,w7]
theorem Zyo {n k:Nat} {X:List Nat} (st0:St) (hn:st0.nx≤n):∀(m c:Nat) (e:Env) (st1:St),m≤6→c<1000000→Ext st0 st1→k=6+X.length - 6→∀Y:List Nat,Y.length=6 - m+X.length→Zh st1.h n=some (.cells 3 false (Wm (List.replicate m 0++Y)))→Zb e 3= .slice n 0 (k+6) (.known (k+6))→Zb e 4= .int .i64 (c:Nat)→Zb e 7= .int .i64 ((m:Int) - 1)→
  Res (run T (.loop B.Xu) e st1) fun x e' s'=>x= .exit 2∧Ext st0 s'∧Zh s'.h n=some (.cells 3 false (Wm (pad m c++Y)))∧Zb e' 3= .slice n 0 (k+6) (.known (k+6)):=by
 intro m
 induction m with
 | zero=>
   intro c e st1 hm hcb hx hk Y hY hg g3 g4 g7
   rw[Zn]
   simp at hg
   simp[B.Xu,go_sem,g3,g4,g7,hx,pad]
   exact hg
 | succ m ih=>
   intro c e st1 hm hcb hx hk Y hY hg g3 g4 g7
   have e5:((m+1:Nat):Int) - 1=(m:Int):=by omega
   rw[e5]at g7
   obtain⟨w4,w5⟩:=Zt9 c
   have w7:IntKind.i64.wrap ((m:Int) - 1)=(m:Int) - 1:=Zf (by omega) (by omega)
   have w6:IntKind.i64.wrap ((c / 10:Nat):Int)=((c / 10:Nat):Int):=Zf (by omega) (by omega)
   have hw:Z5 st1.h n m [.int .i64 ((c % 10:Nat):Int)]=some (Qi st1.h n (.cells 3 false (Wm (List.replicate m 0++(c % 10::Y))))):=by
    rw[Y8 hg rfl (by rw[Zjq];simp;omega),Zrr]
   have hpad:pad (m+1) c++Y=pad m (c / 10)++(c % 10::Y):=by simp[pad]
   rw[hpad]
   have hc10:c / 10<1000000:=by omega
   generalize c % 10=R at w4 hw⊢
   generalize c / 10=C at w5 w6 hc10⊢
   have f1:=Frm.set hx.wf hg (o:= .cells 3 false (Wm (List.replicate m 0++(R::Y))))
   have x1:Ext st0 ⟨Qi st1.h n (.cells 3 false (Wm (List.replicate m 0++(R::Y)))),st1.nx⟩:=hx.Yo f1 (by simpa using hn)
   have g1:Zh (Qi st1.h n (.cells 3 false (Wm (List.replicate m 0++(R::Y))))) n=some (.cells 3 false (Wm (List.replicate m 0++(R::Y)))):=Zc hg
   have hm6:(m:Int)<(k:Int)+6:=by omega
   rw[Zn]
   simp[B.Xu,go_sem,g3,g4,g7,RO.run,WO.run,hm6,w4,w5,w6,hw]
   refine ih C _ _ (by omega) hc10 x1 hk (R::Y) (by simp;omega) g1 ?_ ?_ ?_
   ·simp[go_sem]
   ·simp[go_sem,w5,w6]
   ·simp[go_sem,w7]
theorem Zm6:∀k,Y3 [AV.int .i64 0] k=Wm (List.replicate k 0)
 | 0=>rfl
 | k+1=>by
   rw[List.replicate_succ]
   simp[Y3,Zm6 k,Wm]
theorem Zrz (H:B.Gq T) (hwf:st.Wf) {nn off:Nat} {cp:Cap} {l:List Nat} (hk:l.length≤1000000) (hd:∀d∈l,d<10) (hr:Rd st.h (.slice nn off l.length cp) 1 l.length (Wm l)):
  Jg (call T (.fn 103 [] []) [.slice nn off l.length cp] st) fun v s'=>Ext st s'∧∃n c,v= .slice n 0 (l.length+6) c∧Rd s'.h v 1 (l.length+6) (Wm (Me l)):=by
 refine Q3 H.e H.f rfl ?_
 have w1:IntKind.i64.wrap ((l.length:Int)+6)=((l.length+6:Nat):Int):=by rw[Zf (by omega) (by omega)];omega
 have w2:IntKind.i64.wrap ((l.length:Int) - 1)=(l.length:Int) - 1:=Zf (by omega) (by omega)
 have xn:=Ext.new hwf (.cells 3 false (Wm (List.replicate (6+l.length) 0)))
 have hg:Zh ((st.nx,Z7.cells 3 false (Wm (List.replicate (6+l.length) 0)))::st.h) st.nx=some (.cells 3 false (Wm (List.replicate (6+l.length) 0++(Mu (l.drop l.length)).1))):=by simp[Ze,Mu]
 have hrn:=hr.ext xn hwf
 have hsv:∀m∈(AV.slice nn off l.length cp).nms,m≠st.nx:=fun m hm h=>by have:=hr.lt hwf m hm;omega
 have lp:=fun e a b c d=>Zyn (T:=T) hk hd st (Nat.le_refl _) hsv l.length e _ (Nat.le_refl _) xn hrn hg a b c d
 have hmz:Mu (l.drop l.length)=([],0):=by simp[Mu]
 rw[hmz]at lp
 have hml:=Bg l
 have hmb:=Zih l hd
 have hq8:((l.length:Int)+6)*8≤140737488355328:=by omega
 have hq9:(l.length:Int)+6≤140737488355328:=by omega
 have hts:Me l=pad 6 (Mu l).2++(Mu l).1:=rfl
 rw[hts]
 generalize Mu l=M at lp hml hmb⊢
 obtain⟨q,hq⟩:∃q,q=l.length+6:=⟨_,rfl⟩
 have hq':(q:Int)=(l.length:Int)+6:=by omega
 rw[show 6+l.length=q by omega]at lp
 rw[←hq]at w1 lp⊢
 have hq8:(q:Int)*8≤140737488355328:=by omega
 have hq9:(q:Int)≤140737488355328:=by omega
 simp[B.Uu,go_sem,NO.run,w1,w2,hq8,hq9,Zm6]
 refine(lp _ (by simp[go_sem]) (by simp[go_sem]) (by simp[go_sem]) (by simp[go_sem])).mono ?_
 rintro x e s1 ⟨rfl,x1,g1,k3,k4⟩
 simp[go_sem,k3,k4]
 refine(Zyo (T:=T) (X:=M.1) (k:=l.length) st (Nat.le_refl _) 6 M.2 _ s1 (by omega) (by omega) x1 (by omega) M.1 (by omega) g1 (by simp[go_sem,hq]) (by simp[go_sem]) (by simp[go_sem])).mono ?_
 rintro x e2 s2 ⟨rfl,x2,g2,j3⟩
 simp[go_sem,j3]
 have g3:=Qv (c:=st.nx) x2.wf g2 rfl
 refine⟨x2.Zp,by omega,.inr ⟨_,_,_,by rw[←hq],Mw g3 ?_⟩⟩
 rw[Zjq,List.length_append,Zik]
 omega
theorem tdm2 (a:Int):(0≤a∧a.tdiv 2=a / 2∧a.tmod 2=a % 2)∨(a<0∧a.tdiv 2= -((-a) / 2)∧a.tmod 2= -((-a) % 2)):=by
 by_cases h:0≤a
 ·exact .inl ⟨h,Int.tdiv_eq_ediv_of_nonneg h,Int.tmod_eq_emod_of_nonneg h⟩
 ·refine .inr ⟨by omega,?_,?_⟩
  ·have:=Int.neg_tdiv (-a) 2
   rw[Int.neg_neg]at this
   rw[this,Int.tdiv_eq_ediv_of_nonneg (by omega)]
  ·have:=Int.neg_tmod (-a) 2
   rw[Int.neg_neg]at this
   rw[this,Int.tmod_eq_emod_of_nonneg (by omega)]
theorem Ti (H:B.Gl T) (hwf:st.Wf) {a:Int} (h0: -1000000000000000≤a) (h1:a≤1000000000000000):Qa T st (.fn 104 [] []) [.int .i64 a,.int .i64 2] (.int .i64 (a / 2)):=by
 refine Zs H.e H.f rfl ?_
 have ht:=tdm2 a
 have w1:IntKind.i64.wrap (a.tdiv 2)=a.tdiv 2:=Zf (by omega) (by omega)
 have w2:IntKind.i64.wrap (a.tdiv 2 - 1)=a.tdiv 2 - 1:=Zf (by omega) (by omega)
 by_cases h:a.tmod 2<0
 ·have hq:a / 2=a.tdiv 2 - 1:=by omega
  simp[B.Kg,go_sem,h,w1,w2,hq,Ext.refl hwf]
 ·have hq:a / 2=a.tdiv 2:=by omega
  simp[B.Kg,go_sem,h,w1,hq,Ext.refl hwf]
theorem Fl (H:B.Ga T) (hwf:st.Wf) {n:Int}:Qa T st (.fn 105 [] []) [.int .i64 n] (.bool (decide (-2147483648≤n) && decide (n≤2147483648))):=by
 refine Zs H.e H.f rfl ?_
 by_cases h: -2147483648≤n
 ·simp[B.Ky,go_sem,h,Ext.refl hwf]
 ·simp[B.Ky,go_sem,h,Ext.refl hwf]
end Go.Ev

/- The reference's Parse told. -/
namespace Go.Ev
open Go
variable {T : Tab} {st : St}
def Lz:Nat→List Nat→Nat→Bool→Nat×Bool
 | _,[],N,r=>(N,r)
 | 0,d::l,N,r=>Lz 0 l N (r || decide (d≠0))
 | k+1,d::l,N,r=>Lz k l (min (10*N+d) 1099511627776) r
theorem Zu0 {k:Nat} {l l2:List Nat} {d N:Nat} {r:Bool} (h:l=d::l2):Lz k l N r=if 0<k then Lz (k - 1) l2 (min (10*N+d) 1099511627776) r else Lz 0 l2 N (r || decide (d≠0)):=by
 subst h
 cases k with
 | zero=>simp[Lz]
 | succ k=>simp[Lz]
theorem minw {N d:Nat} (hN:N≤1099511627776) (hd:d<10):IntKind.i64.wrap (10*(N:Int))=10*N∧IntKind.i64.wrap (10*(N:Int)+d)=10*N+d∧(if(1099511627776:Int)<10*(N:Int)+d then 1099511627776 else 10*(N:Int)+d)=((min (10*N+d) 1099511627776:Nat):Int):=by
 refine⟨Zf (by omega) (by omega),Zf (by omega) (by omega),?_⟩
 split <;> omega
theorem lenw {L i E:Nat} {ex:Int} (hE:E=ex.toNat) (h1: -100000≤ex) (h2:ex≤100000) (hL:L≤100000) (hi:i≤200000):(if ex<0 then 0 else ex)=(E:Int)∧IntKind.i64.wrap ((L:Int)+(E:Int))=((L+E:Nat):Int)∧IntKind.i64.wrap ((L:Int)+ex)=L+ex∧IntKind.i64.wrap ((i:Int)+1)=((i+1:Nat):Int)∧((i:Int)<(L:Int)+ex↔0<((L:Int)+ex).toNat - i)∧E≤100000:=by
 refine⟨?_,?_,Zf (by omega) (by omega),Zf (by omega) (by omega),by omega,by omega⟩
 ·split <;> omega
 ·rw[Zf (by omega) (by omega)];omega
theorem Zvz {t:List Nat} {nn E:Nat} {cp:Cap} {ex:Int} {L:Nat} (hE:E=ex.toNat) (hL:L=t.length) (hLb:L≤100000) (h1: -100000≤ex) (h2:ex≤100000) (ht:∀d∈t,d<10) (hr:Rd st.h (.slice nn 0 L cp) 1 L (Wm t)) (sg:Int) {C:Nat} (hC:C=((L:Int)+ex).toNat):
  ∀(m i N:Nat) (r:Bool) (e:Env),i+m=L+E→N≤1099511627776→Zb e 4= .int .i64 sg→Zb e 6= .int .i64 ex→Zb e 8= .slice nn 0 L cp→Zb e 9= .int .i64 N→Zb e 10= .bool r→Zb e 11= .int .i64 i→
  Res (run T (.loop B.Q9) e st) fun x e' s'=>x= .exit 0∧s'=st∧Zb e' 4= .int .i64 sg∧Zb e' 9= .int .i64 ((Lz (C - i) ((t++List.replicate E 0).drop i) N r).1:Nat)∧Zb e' 10= .bool (Lz (C - i) ((t++List.replicate E 0).drop i) N r).2:=by
 intro m
 induction m with
 | zero=>
   intro i N r e hi hN g4 g6 g8 g9 g10 g11
   have hEb:E≤100000:=by omega
   obtain⟨q1,q2,q3,q4,q5,q6⟩:=lenw (i:=i) hE h1 h2 hLb (by omega)
   have hd:(t++List.replicate E 0).drop i=[]:=List.drop_eq_nil_iff.2 (by simp;omega)
   rw[hd]
   obtain⟨W,hW⟩:∃W,W=L+E:=⟨_,rfl⟩
   rw[←hW]at q2
   have hni:¬(i:Int)<(W:Int):=by omega
   have hni':¬i<W:=by omega
   rw[Zn]
   simp[B.Q9,go_sem,g4,g6,g8,g9,g10,g11,q1,q2,hni,hni',Lz]
 | succ m ih=>
   intro i N r e hi hN g4 g6 g8 g9 g10 g11
   have hEb:E≤100000:=by omega
   obtain⟨q1,q2,q3,q4,q5,q6⟩:=lenw (i:=i) hE h1 h2 hLb (by omega)
   rw[←hC]at q5
   have hlt:i<(t++List.replicate E 0).length:=by simp;omega
   obtain⟨d,hdi,hdr⟩:∃d,(t++List.replicate E 0)[i]? =some d∧(t++List.replicate E 0).drop i=d::(t++List.replicate E 0).drop (i+1):=⟨_,List.getElem?_eq_getElem hlt,List.drop_eq_getElem_cons hlt⟩
   have hd10:d<10:=by
    rcases List.mem_append.1 (List.mem_of_getElem? hdi)with h | h
    ·exact ht d h
    ·have:=List.eq_of_mem_replicate h;omega
   obtain⟨p1,p2,p3⟩:=minw hN hd10
   rw[Zu0 hdr]
   obtain⟨W,hW⟩:∃W,W=L+E:=⟨_,rfl⟩
   rw[←hW]at q2
   have hni:(i:Int)<(W:Int):=by omega
   have next:∀(N':Nat) (r':Bool) (e':Env),N'≤1099511627776→(if 0<C - i then Lz (C - i - 1) ((t++List.replicate E 0).drop (i+1)) (min (10*N+d) 1099511627776) r else Lz 0 ((t++List.replicate E 0).drop (i+1)) N (r || decide (d≠0)))=Lz (C - (i+1)) ((t++List.replicate E 0).drop (i+1)) N' r'→Zb e' 4= .int .i64 sg→Zb e' 6= .int .i64 ex→Zb e' 8= .slice nn 0 L cp→Zb e' 9= .int .i64 N'→Zb e' 10= .bool r'→Zb e' 11= .int .i64 ((i+1:Nat):Int)→
     Res (run T (.loop B.Q9) e' st) fun x e' s'=>x= .exit 0∧s'=st∧Zb e' 4= .int .i64 sg∧Zb e' 9= .int .i64 ((if 0<C - i then Lz (C - i - 1) ((t++List.replicate E 0).drop (i+1)) (min (10*N+d) 1099511627776) r else Lz 0 ((t++List.replicate E 0).drop (i+1)) N (r || decide (d≠0))).1:Nat)∧Zb e' 10= .bool (if 0<C - i then Lz (C - i - 1) ((t++List.replicate E 0).drop (i+1)) (min (10*N+d) 1099511627776) r else Lz 0 ((t++List.replicate E 0).drop (i+1)) N (r || decide (d≠0))).2:=by
    intro N' r' e' hN' he k4 k6 k8 k9 k10 k11
    rw[he]
    exact ih (i+1) N' r' e' (by omega) hN' k4 k6 k8 k9 k10 k11
   generalize hGD:(if 0<C - i then Lz (C - i - 1) ((t++List.replicate E 0).drop (i+1)) (min (10*N+d) 1099511627776) r else Lz 0 ((t++List.replicate E 0).drop (i+1)) N (r || decide (d≠0)))=G at next⊢
   rw[Zn]
   by_cases hil:i<L
   ·have hil':(i:Int)<(L:Int):=by omega
    have hrr:Zo st.h nn i=some (.int .i64 (d:Int)):=by
     rcases hr with ⟨h,_⟩ | ⟨n2,off,cp2,h,h2'⟩
     ·cases h
     ·injection h with a1 a2 a3 a4
      subst a1;subst a2
      have:=G9 (i:=i) h2' (by omega)
      rw[Nat.zero_add]at this
      rw[this]
      rw[List.getElem?_append_left (by omega)]at hdi
      simp[Wm,hdi]
    by_cases hik:(i:Int)<(L:Int)+ex
    ·have hk0:=q5.1 hik
     obtain⟨M,hM⟩:∃M,M=min (10*N+d) 1099511627776:=⟨_,rfl⟩
     rw[←hM]at p3
     have hG:G=Lz (C - (i+1)) ((t++List.replicate E 0).drop (i+1)) M r:=by rw[←hGD,if_pos hk0,←hM,Nat.sub_sub]
     simp[B.Q9,go_sem,g4,g6,g8,g9,g10,g11,q1,q2,q3,hni,hil,hil',RO.run,hrr,hik,p1,p2,p3]
     exact next M r _ (by omega) hG (by simp[go_sem]) (by simp[go_sem]) (by simp[go_sem]) (by simp[go_sem]) (by simp[go_sem]) (by simp[go_sem,q4])
    ·have hk0:¬0<C - i:=fun h=>hik (q5.2 h)
     have hG:G=Lz (C - (i+1)) ((t++List.replicate E 0).drop (i+1)) N (r || decide (d≠0)):=by rw[←hGD,if_neg hk0,show C - (i+1)=0 by omega]
     have hik':¬(i:Int)<(L:Int)+ex:=hik
     cases r with
     | true=>
       simp[B.Q9,go_sem,g4,g6,g8,g9,g10,g11,q1,q2,q3,hni,hil,hil',RO.run,hrr,hik']
       exact next N true _ hN (by simpa using hG) (by simp[go_sem]) (by simp[go_sem]) (by simp[go_sem]) (by simp[go_sem]) (by simp[go_sem]) (by simp[go_sem,q4])
     | false=>
       simp[B.Q9,go_sem,g4,g6,g8,g9,g10,g11,q1,q2,q3,hni,hil,hil',RO.run,hrr,hik']
       exact next N (decide (d≠0)) _ hN (by simpa using hG) (by simp[go_sem]) (by simp[go_sem]) (by simp[go_sem]) (by simp[go_sem]) (by simp[go_sem]) (by simp[go_sem,q4])
   ·have hil':¬(i:Int)<(L:Int):=by omega
    have hd0:d=0:=by
     rw[List.getElem?_append_right (by omega),List.getElem?_replicate]at hdi
     split at hdi
     ·exact(Option.some.inj hdi).symm
     ·cases hdi
    subst hd0
    by_cases hik:(i:Int)<(L:Int)+ex
    ·have hk0:=q5.1 hik
     obtain⟨M,hM⟩:∃M,M=min (10*N+0) 1099511627776:=⟨_,rfl⟩
     have p3':(if(1099511627776:Int)<10*(N:Int)then 1099511627776 else 10*(N:Int))=(M:Int):=by rw[hM];split <;> omega
     have hG:G=Lz (C - (i+1)) ((t++List.replicate E 0).drop (i+1)) M r:=by rw[←hGD,if_pos hk0,←hM,Nat.sub_sub]
     simp[B.Q9,go_sem,g4,g6,g8,g9,g10,g11,q1,q2,q3,hni,hil,hil',hik,p1,p3']
     exact next M r _ (by omega) hG (by simp[go_sem]) (by simp[go_sem]) (by simp[go_sem]) (by simp[go_sem]) (by simp[go_sem]) (by simp[go_sem,q4])
    ·have hk0:¬0<C - i:=fun h=>hik (q5.2 h)
     have hG:G=Lz (C - (i+1)) ((t++List.replicate E 0).drop (i+1)) N r:=by rw[←hGD,if_neg hk0,show C - (i+1)=0 by omega];simp
     have hik':¬(i:Int)<(L:Int)+ex:=hik
     cases r with
     | true=>
       simp[B.Q9,go_sem,g4,g6,g8,g9,g10,g11,q1,q2,q3,hni,hil,hil',hik']
       exact next N true _ hN hG (by simp[go_sem]) (by simp[go_sem]) (by simp[go_sem]) (by simp[go_sem]) (by simp[go_sem]) (by simp[go_sem,q4])
     | false=>
       simp[B.Q9,go_sem,g4,g6,g8,g9,g10,g11,q1,q2,q3,hni,hil,hil',hik']
       exact next N false _ hN hG (by simp[go_sem]) (by simp[go_sem]) (by simp[go_sem]) (by simp[go_sem]) (by simp[go_sem]) (by simp[go_sem,q4])
theorem Zj0:∀(pt:Bool) (r:List UInt8),∀d∈(Jo pt r).1,d<10
 | _,[],d,h=>by simp[Jo]at h
 | pt,c::r,d,h=>by
   simp only[Jo]at h
   split at h
   ·rename_i hc
    have hc2:48≤c.toNat∧c.toNat≤57:=by simpa [J4] using hc
    rcases List.mem_cons.1 h with rfl | h
    ·omega
    ·exact Zj0 pt r d h
   ·split at h
    ·exact Zj0 true r d h
    ·simp at h
theorem Zrf {s:List UInt8} {neg:Bool} {l:List Nat} {ex:Int} (h:Dn s=some (neg,l,ex)):l≠[]∧(∀d∈l,d<10)∧l.length≤s.length∧-(s.length:Int) - 1000≤ex∧ex≤1000:=by
 have hz:=Ze7 s
 have hml:=Ar false (sgn s).2
 have hmd:=Zj0 false (sgn s).2
 unfold Dn at h
 simp only at h
 split at h
 ·cases h
 ·rename_i hne
  split at h
  ·simp only[Option.some.injEq,Prod.mk.injEq]at h
   obtain⟨_,rfl,rfl⟩:=h
   exact⟨hne,hmd,by omega,by omega,by omega⟩
  ·rename_i c t _
   split at h
   ·cases h
   ·split at h
    ·cases h
    ·rename_i hlen
     split at h
     ·have hnb:Qz (Zw (sgn t).2).1<1000:=by
       have hlu:=Wv (sgn t).2
       refine Nat.lt_of_lt_of_le (Oy (fun d hd=>Dr _ d hd)) ?_
       exact Nat.le_trans (Nat.pow_le_pow_right (by omega) (show _≤3 by omega)) (by omega)
      simp only[Option.some.injEq,Prod.mk.injEq]at h
      obtain⟨_,rfl,rfl⟩:=h
      refine⟨hne,hmd,by omega,?_,?_⟩ <;> split <;> omega
     ·cases h
def Ru (neg:Bool) (l:List Nat) (ex:Int):Int:=
 let a:=Lz (((l.length+6:Nat):Int)+ex).toNat (Me l++List.replicate ex.toNat 0) 0 false
 let up:Int:=if neg=true then(if a.2=true then -(a.1:Int) - 1 else -(a.1:Int))else(a.1:Int)
 (up+1) / 2
def L8 (s:List UInt8):Int×Int:=
 if 40<s.length then(0,3)
 else match Dn s with
  | none=>(0,5)
  | some (neg,l,ex)=>if -2147483648≤Ru neg l ex∧Ru neg l ex≤2147483648 then(Ru neg l ex,0)else(0,6)
theorem Zni:∀(l:List Nat) (k N:Nat) (r:Bool),N≤1099511627776→(Lz k l N r).1≤1099511627776
 | [],_,_,_,h=>by simpa [Lz] using h
 | d::l,0,N,r,h=>by simp only[Lz];exact Zni l 0 N _ h
 | d::l,k+1,N,r,h=>by simp only[Lz];exact Zni l k _ r (Nat.min_le_right _ _)
theorem Zov (H:B.Gm T) (hwf:st.Wf) {s:List UInt8} (hs:s.length<1000000000000):Qa T st (.fn 81 [] []) [.str s] (.tuple [.int .i64 (L8 s).1,.int .i64 (L8 s).2]):=by
 refine Zs H.e H.f rfl ?_
 by_cases h40:40<s.length
 ·have h40':(40:Int)<s.length:=by omega
  simp[B.Y9,go_sem,h40,h40',L8,Ext.refl hwf]
 have h40':¬(40:Int)<s.length:=by omega
 simp[B.Y9,go_sem,h40,h40']
 refine(Zkf H.Zu hwf hs).mono ?_
 rintro v1 s1 ⟨x1,hU⟩
 cases hr:Dn s with
 | none=>
   rw[hr]at hU
   subst hU
   simp[go_sem,L8,h40,hr,x1]
 | some p=>
   obtain⟨neg,l,ex⟩:=p
   rw[hr]at hU
   obtain⟨sv,rfl,hsl⟩:=hU
   obtain⟨f1,f2,f3,f4,f5⟩:=Zrf hr
   have hps:L8 s=if -2147483648≤Ru neg l ex∧Ru neg l ex≤2147483648 then(Ru neg l ex,0)else(0,6):=by simp only[L8,if_neg h40,hr]
   rw[hps]
   have hlen:l.length≠0:=fun h=>f1 (List.length_eq_zero_iff.1 h)
   rcases hsl.cases with ⟨_,_,h3⟩ | ⟨n,cp,rfl⟩
   ·omega
   have hrd:Rd s1.h (.slice n 0 l.length cp) 1 l.length (Wm l):=hsl.rd
   simp[go_sem]
   refine(Zrz H.Uu x1.wf (by omega) f2 hrd).mono ?_
   rintro v2 s2 ⟨x2',n2,c2,rfl,hr2⟩
   have x2:=x1.trans x2'
   have htl:(Me l).length=l.length+6:=by simp[Me,Zik,Bg];omega
   have htd:∀d∈Me l,d<10:=fun d hd=>by
    rcases List.mem_append.1 hd with h | h
    ·exact Zou _ _ d h
    ·exact Zj3 _ d h
   have lp:=fun e a b c d f g=>Zvz (T:=T) (st:=s2) (E:=ex.toNat) (L:=l.length+6) rfl htl.symm (by omega) (by omega) (by omega) htd hr2 (Ek neg) rfl (l.length+6+ex.toNat) 0 0 false e (by omega) (by omega) a b c d f g
   simp only[List.drop_zero,Nat.sub_zero]at lp
   have hal:=Zni (Me l++List.replicate ex.toNat 0) (((l.length+6:Nat):Int)+ex).toNat 0 false (by omega)
   have hrr:Ru neg l ex=((if neg=true then(if(Lz (((l.length+6:Nat):Int)+ex).toNat (Me l++List.replicate ex.toNat 0) 0 false).2=true then -((Lz (((l.length+6:Nat):Int)+ex).toNat (Me l++List.replicate ex.toNat 0) 0 false).1:Int) - 1 else -((Lz (((l.length+6:Nat):Int)+ex).toNat (Me l++List.replicate ex.toNat 0) 0 false).1:Int))else((Lz (((l.length+6:Nat):Int)+ex).toNat (Me l++List.replicate ex.toNat 0) 0 false).1:Int))+1) / 2:=rfl
   rw[hrr]
   generalize Lz (((l.length+6:Nat):Int)+ex).toNat (Me l++List.replicate ex.toNat 0) 0 false=A at lp hal hrr⊢
   simp[go_sem]
   refine(lp _ (by simp[go_sem]) (by simp[go_sem]) (by simp[go_sem]) (by simp[go_sem]) (by simp[go_sem]) (by simp[go_sem])).mono ?_
   rintro x e s3 ⟨rfl,hs3,k4,k9,k10⟩
   subst hs3
   clear lp hrr hps hrd hr2
   obtain⟨N,r⟩:=A
   simp only at hal k9 k10⊢
   have w0:IntKind.i64.wrap (-(N:Int))= -(N:Int):=Zf (by omega) (by omega)
   have w1:IntKind.i64.wrap (-(N:Int) - 1)= -(N:Int) - 1:=Zf (by omega) (by omega)
   have w2:IntKind.i64.wrap ((N:Int)+1)=(N:Int)+1:=Zf (by omega) (by omega)
   have w3:IntKind.i64.wrap (-(N:Int)+1)= -(N:Int)+1:=Zf (by omega) (by omega)
   cases neg with
   | false=>
     simp[go_sem,Ek,k4,k9,k10,w2]
     refine(Ti H.Kg x2.wf (a:=(N:Int)+1) (by omega) (by omega)).use fun s4 x4'=> ?_
     have x4:=x2.trans x4'
     simp[go_sem]
     refine(Fl H.Ky x4.wf (n:=((N:Int)+1) / 2)).use fun s5 x5'=> ?_
     have x5:=x4.trans x5'
     by_cases hin: -2147483648≤((N:Int)+1) / 2∧((N:Int)+1) / 2≤2147483648
     ·simp[go_sem,hin,x5]
     ·have hb:(decide (-2147483648≤((N:Int)+1) / 2) && decide (((N:Int)+1) / 2≤2147483648))=false:=by simpa using hin
      simp[go_sem,hb,hin,x5]
   | true=>
     cases r with
     | false=>
       simp[go_sem,Ek,k4,k9,k10,w0,w3]
       refine(Ti H.Kg x2.wf (a:= -(N:Int)+1) (by omega) (by omega)).use fun s4 x4'=> ?_
       have x4:=x2.trans x4'
       simp[go_sem]
       refine(Fl H.Ky x4.wf (n:=(-(N:Int)+1) / 2)).use fun s5 x5'=> ?_
       have x5:=x4.trans x5'
       by_cases hin: -2147483648≤(-(N:Int)+1) / 2∧(-(N:Int)+1) / 2≤2147483648
       ·simp[go_sem,hin,x5]
       ·have hb:(decide (-2147483648≤(-(N:Int)+1) / 2) && decide ((-(N:Int)+1) / 2≤2147483648))=false:=by simpa using hin
        simp[go_sem,hb,hin,x5]
     | true=>
       simp[go_sem,Ek,k4,k9,k10,w0,w1]
       refine(Ti H.Kg x2.wf (a:= -(N:Int)) (by omega) (by omega)).use fun s4 x4'=> ?_
       have x4:=x2.trans x4'
       simp[go_sem]
       refine(Fl H.Ky x4.wf (n:=(-(N:Int)) / 2)).use fun s5 x5'=> ?_
       have x5:=x4.trans x5'
       by_cases hin: -2147483648≤(-(N:Int)) / 2∧(-(N:Int)) / 2≤2147483648
       ·simp[go_sem,hin,x5]
       ·have hb:(decide (-2147483648≤(-(N:Int)) / 2) && decide ((-(N:Int)) / 2≤2147483648))=false:=by simpa using hin
        simp[go_sem,hb,hin,x5]
end Go.Ev

/- The reference's Number. -/
namespace Go.Ev
open Go
variable {T : Tab} {st : St}
def U3 (s:List UInt8) (i:Nat):Option Int:=
 if s[i]? =some 35∧2≤X6 10 (s.take i)∧X6 10 (s.take i)≤36∧0≤X6 (X6 10 (s.take i)) (s.drop (i+1))then some (X6 (X6 10 (s.take i)) (s.drop (i+1)))else none
def Zlx (s:List UInt8):Tk:=
 if 0≤X6 10 (Jp s).1 then Nx ((Jp s).2*X6 10 (Jp s).1) s.length
 else match U3 s 1 with
  | some n=>Nx n s.length
  | none=>match U3 s 2 with
    | some n=>Nx n s.length
    | none=>match Dn s with
      | none=>(0,0,5)
      | some _=>if(L8 s).2≠0 then(0,0,26)else(2,(L8 s).1,0)
theorem Zi1 (M:Nat) (base:Int):∀(s:List UInt8) (n:Nat),n≤M→∀v,Jn M base n s=some v→v≤M
 | [],n,h,v,hv=>by simp[Jn]at hv;omega
 | c::s,n,h,v,hv=>by
   simp only[Jn]at hv
   split at hv
   ·cases hv
   ·exact Zi1 M base s _ (Nat.min_le_right _ _) v hv
theorem Zt6 (base:Int) (s:List UInt8): -1≤X6 base s∧X6 base s≤8589934592:=by
 unfold X6
 split
 ·omega
 ·split
  ·rename_i n h
   have:=Zi1 8589934592 base s 0 (by omega) n h
   omega
  ·omega
theorem Zm1 (H:B.Yr T) {s:List UInt8} {m:Nat} (hs:s.length<1000000000000) {st0:St} (hn:st0.nx≤m) {i:Nat} (hi:i=1∨i=2) (hil:i<s.length) (hx:Ext st0 st) (hg:Zh st.h m=some (.cells 134 true [.int .i64 0,.int .i64 0,.str []])) {e:Env} (g0:Zb e 0= .str s) (g2:Zb e 2= .ptr m 0) (g7:Zb e 7= .int .i64 i) {Q:Ex→Env→St→Prop}
  (hsome:∀n e' s',U3 s i=some n→Ext st0 s'→Zh s'.h m=some (.cells 134 true [.int .i64 (Nx n s.length).1,.int .i64 (Nx n s.length).2.1,.str []])→Zb e' 2= .ptr m 0→Zb e' 3= .int .i64 (Nx n s.length).2.2→Q .ret e' s')
  (hnone:∀e' s',U3 s i=none→Ext st0 s'→Zh s'.h m=some (.cells 134 true [.int .i64 0,.int .i64 0,.str []])→Zb e' 0= .str s→Zb e' 2= .ptr m 0→Zb e' 7= .int .i64 ((i+1:Nat):Int)→Res (run T (.loop B.Q0) e' s') Q):
  Res (run T (.loop B.Q0) e st) Q:=by
 have hi2:(i:Int)≤2:=by omega
 have hil':(i:Int)<s.length:=by omega
 obtain⟨c,hc,hd⟩:=Z9 hil
 have e7:IntKind.i64.wrap ((i:Int)+1)=((i+1:Nat):Int):=Zf (by omega) (by omega)
 have hsub:Q6 s none (some (.int .i64 (i:Int)))=some (.str (s.take i)):=by rw[E7 (by omega) (by omega)];simp
 have hsub2:Q6 s (some (.int .i64 ((i+1:Nat):Int))) none=some (.str (s.drop (i+1))):=by rw[Qp (by omega) (by omega)];simp
 obtain⟨b,hb⟩:∃b,b=X6 10 (s.take i):=⟨_,rfl⟩
 have hbl:=Zt6 10 (s.take i)
 rw[←hb]at hbl
 rw[Zn]
 simp[B.Q0,go_sem,g0,g2,g7,hi2,hil',hsub]
 refine(Bm H.Kh hx.wf (s:=s.take i) (by rw[List.length_take];omega) (base:=10) (by omega) (by omega)).use fun s1 x1'=> ?_
 have x1:=hx.trans x1'
 have g1:=x1'.get hx.wf hg
 rw[←hb]
 obtain⟨i2,hi3⟩:∃i2,i2=i+1:=⟨_,rfl⟩
 rw[←hi3]at e7 hsub2 hnone
 have hi4:(i2:Int)≤s.length:=by omega
 by_cases h35:c=35
 ·subst h35
  by_cases hb2:2≤b
  ·by_cases hb36:b≤36
   ·have hcnt:=fun(st':St) (hw:st'.Wf)=>Bm (st:=st') H.Kh hw (s:=s.drop i2) (by rw[List.length_drop];omega) (base:=b) (by omega) hb36
    have htry:U3 s i=if 0≤X6 b (s.drop i2)then some (X6 b (s.drop i2))else none:=by
     simp only[U3,←hb,←hi3,hc]
     by_cases h:0≤X6 b (s.drop i2) <;> simp[h,hb2,hb36]
    obtain⟨n,hn'⟩:∃n,n=X6 b (s.drop i2):=⟨_,rfl⟩
    rw[←hn']at htry hcnt
    simp[go_sem,hc,hb2,hb36,e7,hsub2]
    refine(hcnt _ x1.wf).use fun s2 x2'=> ?_
    have x2:=x1.trans x2'
    have g2':=x2'.get x1.wf g1
    by_cases hn0:0≤n
    ·rw[if_pos hn0]at htry
     simp[go_sem,hn0,hc,e7,hsub2]
     refine(hcnt _ x2.wf).use fun s3 x3'=> ?_
     have x3:=x2.trans x3'
     have g3':=x3'.get x2.wf g2'
     simp[go_sem]
     refine(A6 H.Ju x3.wf (k:=s.length) (n:=n)).use fun s4 x4'=> ?_
     have x4:=x3.trans x4'
     have g4':=x4'.get x3.wf g3'
     rw[Zic]
     obtain⟨t,ht⟩:∃t,t=Nx n s.length:=⟨_,rfl⟩
     have hso:=fun e' s'=>hsome n e' s' htry
     rw[←ht]at hso⊢
     have f5:=Frm.set x4.wf g4' (o:= .cells 134 true [.int .i64 t.1,.int .i64 t.2.1,.str []])
     simp[go_sem,toA,Yj,Vp,WO.run,Qj g4']
     exact hso _ _ (x4.Yo f5 (by simpa using hn)) (Zc g4') (by simp[go_sem]) (by simp[go_sem])
    ·rw[if_neg hn0]at htry
     simp[go_sem,hn0,e7]
     exact hnone _ _ htry x2 g2' (by simp[go_sem]) (by simp[go_sem]) (by simp[go_sem,e7])
   ·have htry:U3 s i=none:=by simp[U3,←hb,hb36]
    simp[go_sem,hc,hb2,hb36,e7]
    exact hnone _ _ htry x1 g1 (by simp[go_sem]) (by simp[go_sem]) (by simp[go_sem,e7])
  ·have htry:U3 s i=none:=by simp[U3,←hb,hb2]
   simp[go_sem,hc,hb2,e7]
   exact hnone _ _ htry x1 g1 (by simp[go_sem]) (by simp[go_sem]) (by simp[go_sem,e7])
 ·have n1:¬(c.toNat:Int)=35:=Uj h35 rfl
  have m1:¬c.toNat=35:=by omega
  have htry:U3 s i=none:=by simp[U3,hc,h35]
  simp[go_sem,hc,n1,m1,e7]
  exact hnone _ _ htry x1 g1 (by simp[go_sem]) (by simp[go_sem]) (by simp[go_sem,e7])
def nb:Nat→Zx
 | 0=>B.Qb.body
 | k+1=>(nb k).b
theorem Pb (s:List UInt8):Jp s=match s with
  | []=>([],1)
  | c::r=>if c=45 then(r, -1)else if c=43 then(r,1)else(c::r,1):=by
 cases s with
 | nil=>rfl
 | cons c r=>
   by_cases h:c=45
   ·subst h;rfl
   ·by_cases h':c=43
    ·subst h';rfl
    ·simp only[if_neg h,if_neg h']
     unfold Jp
     split
     ·rename_i heq;injection heq with a;exact absurd a h
     ·rename_i heq;injection heq with a;exact absurd a h'
     ·rfl
theorem Zq2 {s:List UInt8} (hs:s.length<1000000000000) {m:Nat} {e:Env} (g0:Zb e 0= .str s) (g2:Zb e 2= .ptr m 0) (g4:Zb e 4= .str s) (g5:Zb e 5= .int .i64 1):
  Res (run T (nb 2).a e st) fun x e' s'=>x= .norm∧s'=st∧Zb e' 0= .str s∧Zb e' 2= .ptr m 0∧Zb e' 4= .str (Jp s).1∧Zb e' 5= .int .i64 (Jp s).2:=by
 rw[Pb]
 simp only[nb,B.Qb,Qq]
 cases s with
 | nil=>simp[go_sem,g0,g2,g4,g5,Jb]
 | cons c r=>
   have hsub:Q6 (c::r) (some (.int .i64 1)) none=some (.str r):=by rw[Qp (by omega) (by simp;omega)];simp
   by_cases h45:c=45
   ·subst h45
    simp[go_sem,g0,g2,g4,g5,Jb,hsub]
   ·by_cases h43:c=43
    ·subst h43
     simp[go_sem,g0,g2,g4,g5,Jb,hsub]
    ·have n1:¬(c.toNat:Int)=45:=Uj h45 rfl
     have n2:¬(c.toNat:Int)=43:=Uj h43 rfl
     have m1:¬c.toNat=45:=by omega
     have m2:¬c.toNat=43:=by omega
     simp[go_sem,g0,g2,g4,g5,Jb,n1,n2,m1,m2,h45,h43]
theorem Zfd (s:List UInt8):(Jp s).1.length≤s.length∧((Jp s).2=1∨(Jp s).2= -1):=by
 rw[Pb]
 cases s with
 | nil=>simp
 | cons c r=>
   simp only
   split
   ·simp
   ·split <;> simp
def Zis (st:St) (m:Nat) (t:Tk) (x:Ex) (e':Env) (s':St):Prop:=
 x= .ret∧Ext st s'∧Zh s'.h m=some (.cells 134 true [.int .i64 t.1,.int .i64 t.2.1,.str []])∧Zb e' 2= .ptr m 0∧Zb e' 3= .int .i64 t.2.2
theorem Zxz (H:B.Yr T) {s:List UInt8} {m:Nat} (hs:s.length<1000000000000) {st0:St} (hn:st0.nx≤m) (hx:Ext st0 st) (hg:Zh st.h m=some (.cells 134 true [.int .i64 0,.int .i64 0,.str []])) {e:Env} (g0:Zb e 0= .str s) (g2:Zb e 2= .ptr m 0):
  Res (run T (nb 7) e st) (Zis st0 m (match Dn s with | none=>(0,0,5) | some _=>if(L8 s).2≠0 then(0,0,26)else(2,(L8 s).1,0))):=by
 simp only[nb,B.Qb,Qq]
 simp[go_sem,g0,g2]
 refine(Zkf H.Zu hx.wf hs).mono ?_
 rintro v1 s1 ⟨x1',hU⟩
 have x1:=hx.trans x1'
 have g1:=x1'.get hx.wf hg
 cases hr:Dn s with
 | none=>
   rw[hr]at hU
   subst hU
   have f2:=Frm.set x1.wf g1 (o:= .cells 134 true [.int .i64 0,.int .i64 0,.str []])
   simp[go_sem,WO.run,Qj g1,Zis]
   exact⟨x1.Yo f2 (by simpa using hn),Zc g1⟩
 | some p=>
   obtain⟨neg,l,ex⟩:=p
   rw[hr]at hU
   obtain⟨sv,rfl,hsl⟩:=hU
   simp[go_sem]
   refine(Zov H.Y9 x1.wf hs).use fun s2 x2'=> ?_
   have x2:=x1.trans x2'
   have g3:=x2'.get x1.wf g1
   generalize L8 s=P
   have f3:=fun a b=>Frm.set x2.wf g3 (o:= .cells 134 true [.int .i64 a,.int .i64 b,.str []])
   by_cases h0:P.2=0
   ·simp[go_sem,h0,WO.run,Qj g3,Zis]
    exact⟨x2.Yo (f3 _ _) (by simpa using hn),Zc g3⟩
   ·simp[go_sem,h0,WO.run,Qj g3,Zis]
    exact⟨x2.Yo (f3 _ _) (by simpa using hn),Zc g3⟩
theorem Pp (H:B.Yr T) (hwf:st.Wf) {s:List UInt8} (hs:s.length<1000000000000):Qa T st (.fn 64 [] []) [.str s] (toA (Zlx s)):=by
 refine Zs H.e H.f rfl ?_
 have hx:=Ext.new hwf (.cells 134 true [.int .i64 0,.int .i64 0,.str []])
 have hg:Zh ((st.nx,Z7.cells 134 true [.int .i64 0,.int .i64 0,.str []])::st.h) st.nx=some (.cells 134 true [.int .i64 0,.int .i64 0,.str []]):=by simp[Ze]
 have main:Res (run T (nb 0) (Ul 0 ([]++[.str s]++[])) st) (Zis st st.nx (Zlx s)):=by
  refine cut (c:=nb 0) rfl (by intro l;simp[nb,B.Qb,Qq]) (fun x e' s'=>x= .norm∧s'=⟨(st.nx,Z7.cells 134 true [.int .i64 0,.int .i64 0,.str []])::st.h,st.nx+1⟩∧Zb e' 0= .str s∧Zb e' 2= .ptr st.nx 0) ?_ ?_
  ·simp only[nb,B.Qb,Qq]
   simp[go_sem,NO.run]
  rintro _ e1 s1 ⟨rfl,hst,g0,g2⟩
  rw[Qw,hst]
  clear hst
  generalize hS:(⟨(st.nx,Z7.cells 134 true [.int .i64 0,.int .i64 0,.str []])::st.h,st.nx+1⟩:St)=sA at hx⊢
  rw[show (st.nx,Z7.cells 134 true [.int .i64 0,.int .i64 0,.str []])::st.h=sA.h by rw[←hS]]at hg
  clear hS
  refine cut (c:=nb 1) rfl (by intro l;simp[nb,B.Qb,Qq]) (fun x e' s'=>x= .norm∧s'=sA∧Zb e' 0= .str s∧Zb e' 2= .ptr st.nx 0∧Zb e' 4= .str s∧Zb e' 5= .int .i64 1) ?_ ?_
  ·simp only[nb,B.Qb,Qq]
   simp[go_sem,g0,g2]
  rintro _ e2 s2 ⟨rfl,hst,k0,k2,k4,k5⟩
  rw[Qw,hst]
  clear hst
  refine cut (c:=nb 2) rfl (by intro l;simp[nb,B.Qb,Qq]) _ (Zq2 hs k0 k2 k4 k5) ?_
  rintro _ e3 s3 ⟨rfl,hst,j0,j2,j4,j5⟩
  rw[Qw,hst]
  clear hst
  show Res (run T (.seq (.Zi [0,2,4,5]) (nb 4)) e3 sA) _
  rw[Dp]
  have h4:Zb (Jh [0,2,4,5] e3) 0= .str s∧Zb (Jh [0,2,4,5] e3) 2= .ptr st.nx 0∧Zb (Jh [0,2,4,5] e3) 4= .str (Jp s).1∧Zb (Jh [0,2,4,5] e3) 5= .int .i64 (Jp s).2:=by simp[Jh,Zb,j0,j2,j4,j5]
  generalize Jh [0,2,4,5] e3=e4 at h4
  obtain⟨i0,i2,i4,i5⟩:=h4
  obtain⟨u1,u2⟩:=Zfd s
  have hcl:=Zt6 10 (Jp s).1
  have hcnt:=fun(st':St) (hw:st'.Wf)=>Bm (st:=st') H.Kh hw (s:=(Jp s).1) (by omega) (base:=10) (by omega) (by omega)
  have hnr:Zlx s=if 0≤X6 10 (Jp s).1 then Nx ((Jp s).2*X6 10 (Jp s).1) s.length else match U3 s 1 with
   | some n=>Nx n s.length
   | none=>match U3 s 2 with
     | some n=>Nx n s.length
     | none=>match Dn s with
       | none=>(0,0,5)
       | some _=>if(L8 s).2≠0 then(0,0,26)else(2,(L8 s).1,0):=rfl
  rw[hnr]
  generalize X6 10 (Jp s).1=N at hcl hcnt⊢
  generalize (Jp s).2=sg at i5 u2⊢
  refine cut (c:=nb 4) rfl (by intro l;simp[nb,B.Qb,Qq]) (fun x e' s'=>(0≤N∧Zis st st.nx (Nx (sg*N) s.length) x e' s')∨(¬0≤N∧x= .norm∧Ext st s'∧Zh s'.h st.nx=some (.cells 134 true [.int .i64 0,.int .i64 0,.str []])∧Zb e' 0= .str s∧Zb e' 2= .ptr st.nx 0)) ?_ ?_
  ·have w1:IntKind.i64.wrap (sg*N)=sg*N:=by rcases u2 with rfl | rfl <;> exact Zf (by omega) (by omega)
   simp only[nb,B.Qb,Qq]
   simp[go_sem,i0,i2,i4,i5]
   refine(hcnt _ hx.wf).use fun s5 x5'=> ?_
   have x5:=hx.trans x5'
   have g5:=x5'.get hx.wf hg
   by_cases hN:0≤N
   ·simp[go_sem,hN,w1,i0,i2,i5]
    refine(A6 H.Ju x5.wf (k:=s.length) (n:=sg*N)).use fun s6 x6'=> ?_
    have x6:=x5.trans x6'
    have g6:=x6'.get x5.wf g5
    rw[Zic]
    generalize Nx (sg*N) s.length=t
    have f7:=Frm.set x6.wf g6 (o:= .cells 134 true [.int .i64 t.1,.int .i64 t.2.1,.str []])
    simp[go_sem,toA,Yj,Vp,WO.run,Qj g6,Zis,i2]
    exact⟨x6.Yo f7 (by simp),Zc g6⟩
   ·simp[go_sem,hN,x5,g5,i0,i2]
    omega
  rintro x e5 s5 (⟨hN,hq⟩ | ⟨hN,rfl,x5,g5,q0,q2⟩)
  ·rw[if_pos hN]
   have:x= .ret:=hq.1
   subst this
   exact hq
  rw[if_neg hN,Qw]
  show Res (run T (.seq (.Zi [0,2]) (nb 6)) e5 s5) _
  rw[Dp]
  have h6:Zb (Jh [0,2] e5) 0= .str s∧Zb (Jh [0,2] e5) 2= .ptr st.nx 0:=by simp[Jh,Zb,q0,q2]
  generalize Jh [0,2] e5=e6 at h6
  obtain⟨p0,p2⟩:=h6
  have tn:∀i,s.length≤i→U3 s i=none:=fun i h=>by simp[U3,List.getElem?_eq_none h]
  refine cut (c:=nb 6) rfl (by intro l;simp[nb,B.Qb,Qq]) (fun x e' s'=>(∃n,(match U3 s 1 with | some n=>some n | none=>U3 s 2)=some n∧Zis st st.nx (Nx n s.length) x e' s')∨(U3 s 1=none∧U3 s 2=none∧x= .norm∧Ext st s'∧Zh s'.h st.nx=some (.cells 134 true [.int .i64 0,.int .i64 0,.str []])∧Zb e' 0= .str s∧Zb e' 2= .ptr st.nx 0)) ?_ ?_
  ·have stop:∀(i:Nat) (e':Env) (s':St),(s.length≤i∨i=3)→Zb e' 0= .str s→Zb e' 2= .ptr st.nx 0→Zb e' 7= .int .i64 i→Ext st s'→Zh s'.h st.nx=some (.cells 134 true [.int .i64 0,.int .i64 0,.str []])→i≤3→U3 s 1=none→U3 s 2=none→
     Res (run T (.loop B.Q0) e' s') fun x e' s'=>(x= .ret∧∃n,(match U3 s 1 with | some n=>some n | none=>U3 s 2)=some n∧Zis st st.nx (Nx n s.length) .ret e' s')∨(x= .exit 0∧U3 s 1=none∧U3 s 2=none∧Ext st s'∧Zh s'.h st.nx=some (.cells 134 true [.int .i64 0,.int .i64 0,.str []])∧Zb e' 0= .str s∧Zb e' 2= .ptr st.nx 0):=by
    intro i e' s' h a0 a2 a7 y1 y2 y3 t1 t2
    rw[Zn]
    rcases h with h | rfl
    ·have hil:¬(i:Int)<s.length:=by omega
     have hil':¬i<s.length:=by omega
     by_cases hi2:i≤2
     ·simp[B.Q0,go_sem,a0,a2,a7,hil,hil',hi2,show (i:Int)≤2 by omega,y1,y2,t1,t2]
     ·simp[B.Q0,go_sem,a0,a2,a7,hi2,show¬(i:Int)≤2 by omega,y1,y2,t1,t2]
    ·simp[B.Q0,go_sem,a0,a2,a7,y1,y2,t1,t2]
   have two:∀(e':Env) (s':St),Zb e' 0= .str s→Zb e' 2= .ptr st.nx 0→Zb e' 7= .int .i64 ((2:Nat):Int)→Ext st s'→Zh s'.h st.nx=some (.cells 134 true [.int .i64 0,.int .i64 0,.str []])→U3 s 1=none→
     Res (run T (.loop B.Q0) e' s') fun x e' s'=>(x= .ret∧∃n,(match U3 s 1 with | some n=>some n | none=>U3 s 2)=some n∧Zis st st.nx (Nx n s.length) .ret e' s')∨(x= .exit 0∧U3 s 1=none∧U3 s 2=none∧Ext st s'∧Zh s'.h st.nx=some (.cells 134 true [.int .i64 0,.int .i64 0,.str []])∧Zb e' 0= .str s∧Zb e' 2= .ptr st.nx 0):=by
    intro e' s' a0 a2 a7 y1 y2 t1
    by_cases h2:2<s.length
    ·refine Zm1 H hs (Nat.le_refl _) (.inr rfl) h2 y1 y2 a0 a2 a7 ?_ ?_
     ·intro n e2 s2 ht z1 z2 z3 z4
      exact .inl ⟨rfl,n,by rw[t1];exact ht,rfl,z1,z2,z3,z4⟩
     ·intro e2 s2 ht z1 z2 z3 z4 z5
      exact stop 3 e2 s2 (.inr rfl) z3 z4 z5 z1 z2 (by omega) t1 ht
    ·exact stop 2 e' s' (.inl (by omega)) a0 a2 a7 y1 y2 (by omega) t1 (tn 2 (by omega))
   have one:∀(e':Env),Zb e' 0= .str s→Zb e' 2= .ptr st.nx 0→Zb e' 7= .int .i64 ((1:Nat):Int)→
     Res (run T (.loop B.Q0) e' s5) fun x e' s'=>(x= .ret∧∃n,(match U3 s 1 with | some n=>some n | none=>U3 s 2)=some n∧Zis st st.nx (Nx n s.length) .ret e' s')∨(x= .exit 0∧U3 s 1=none∧U3 s 2=none∧Ext st s'∧Zh s'.h st.nx=some (.cells 134 true [.int .i64 0,.int .i64 0,.str []])∧Zb e' 0= .str s∧Zb e' 2= .ptr st.nx 0):=by
    intro e' a0 a2 a7
    by_cases h1:1<s.length
    ·refine Zm1 H hs (Nat.le_refl _) (.inl rfl) h1 x5 g5 a0 a2 a7 ?_ ?_
     ·intro n e2 s2 ht z1 z2 z3 z4
      exact .inl ⟨rfl,n,by rw[ht],rfl,z1,z2,z3,z4⟩
     ·intro e2 s2 ht z1 z2 z3 z4 z5
      exact two e2 s2 z3 z4 z5 z1 z2 ht
    ·exact stop 1 e' s5 (.inl (by omega)) a0 a2 a7 x5 g5 (by omega) (tn 1 (by omega)) (tn 2 (by omega))
   show Res (run T (.seq (.Zd [B.p 7 (.Za (.k (.int .i64 1)))]) (.block 0 (.loop B.Q0))) e6 s5) _
   have e7:(1:Int)=((1:Nat):Int):=rfl
   refine Fs (fun x e' s'=>x= .norm∧s'=s5∧Zb e' 0= .str s∧Zb e' 2= .ptr st.nx 0∧Zb e' 7= .int .i64 ((1:Nat):Int)) (by intro l;simp) (by simp[go_sem,p0,p2]) ?_
   rintro _ e8 s8 ⟨rfl,hst,a0,a2,a7⟩
   rw[Qw,hst,Zna,Zit]
   refine(one e8 a0 a2 a7).mono ?_
   rintro x e9 s9 (⟨rfl,n,hn,hq⟩ | ⟨rfl,t1,t2,z1,z2,z3,z4⟩)
   ·exact .inl ⟨n,hn,hq⟩
   ·simp only[Zvo,if_true]
    exact .inr ⟨t1,t2,trivial,z1,z2,z3,z4⟩
  rintro x e7 s7 (⟨n,hn,hq⟩ | ⟨t1,t2,rfl,z1,z2,z3,z4⟩)
  ·have:x= .ret:=hq.1
   subst this
   have hT:(match U3 s 1 with
    | some n=>Nx n s.length
    | none=>match U3 s 2 with
      | some n=>Nx n s.length
      | none=>match Dn s with
        | none=>(0,0,5)
        | some _=>if(L8 s).2≠0 then(0,0,26)else(2,(L8 s).1,0))=Nx n s.length:=by
    cases h1:U3 s 1 with
    | some a=>rw[h1]at hn;simp at hn;rw[hn]
    | none=>
      rw[h1]at hn
      simp at hn
      simp[hn]
   rw[hT]
   exact hq
  ·rw[t1,t2,Qw]
   exact Zxz H hs (Nat.le_refl _) z1 z2 z3 z4
 refine main.mono ?_
 rintro x e s' ⟨rfl,x1,g1,g2,g3⟩
 refine⟨.inr rfl,?_,x1⟩
 simp[B.Qb,Zg,Zm,Zr,RO.run,go_sem,g2,g3,Qd g1,toA,Yj,Vp]
end Go.Ev

/- The reference's Word told. -/
namespace Go.Ev
open Go
variable {T : Tab} {st : St}
def Zkz (s:List UInt8):Int×Int×List UInt8×Int:=
 if s=[]∨Uc s=false then(0,0,[],5)
 else if(Zlx s).2.2≠5 then((Zlx s).1,(Zlx s).2.1,[],(Zlx s).2.2)
 else if 100<s.length then(0,0,[],26)else(3,0,s,0)
theorem Zma (H:B.Hk T) (hwf:st.Wf) {s:List UInt8} (hs:s.length<1000000000000):Qa T st (.fn 66 [] []) [.str s] (toW (Zkz s)):=by
 refine Zs H.e H.f rfl ?_
 have hx:=Ext.new hwf (.cells 134 true [.int .i64 0,.int .i64 0,.str []])
 have hg:Zh ((st.nx,Z7.cells 134 true [.int .i64 0,.int .i64 0,.str []])::st.h) st.nx=some (.cells 134 true [.int .i64 0,.int .i64 0,.str []]):=by simp[Ze]
 have bad:∀{s1:St},Ext st s1→Zh s1.h st.nx=some (.cells 134 true [.int .i64 0,.int .i64 0,.str []])→∀k n t,Ext st ⟨Qi s1.h st.nx (.cells 134 true [.int .i64 k,.int .i64 n,.str t]),s1.nx⟩:=fun e1 g1 k n t=>e1.Qh g1 (Nat.le_refl _)
 by_cases hz:s=[]
 ·subst hz
  simp[B.Ua,go_sem,NO.run,H8,Qj hg,WO.run,Zg,Zm,Zr,RO.run,Qd (Zc hg),toW,Zkz,Yj,Vp]
  exact hx.Qh (st:=st) hg (Nat.le_refl _)
 ·have hq:H8 s []=false:=by cases s with | nil=>exact absurd rfl hz | cons=>rfl
  simp[B.Ua,go_sem,NO.run,hq]
  refine(Cp H.Kz hx.wf (s:=s) (by omega)).use fun s1 hs1=> ?_
  have e1:=hx.trans hs1
  have g1:=hs1.get hx.wf hg
  cases hr:Uc s with
  | false=>
    simp[go_sem,hr,Qj g1,WO.run,Zg,Zm,Zr,RO.run,Qd (Zc g1),toW,Zkz,Yj,Vp]
    exact bad e1 g1 _ _ _
  | true=>
    simp[go_sem,hr]
    refine(Pp H.Qb e1.wf hs).use fun s2 hs2=> ?_
    have e2:=e1.trans hs2
    have g2:=hs2.get e1.wf g1
    obtain⟨t,ht⟩:∃t,t=Zlx s:=⟨_,rfl⟩
    have hwd:Zkz s=if t.2.2≠5 then(t.1,t.2.1,[],t.2.2)else if 100<s.length then(0,0,[],26)else(3,0,s,0):=by simp[Zkz,hz,hr,ht]
    rw[←ht,hwd]
    clear ht hwd
    have x3:=Ext.new e2.wf (.cells 134 true [.int .i64 0,.int .i64 0,.str []])
    have hnx:st.nx<s2.nx:=by have:=e2.wf.lt _ _ g2;exact this
    simp[go_sem,NO.run,WO.run,toA,Yj,Vp,Vo]
    have hgn:Zh ((s2.nx,Z7.cells 134 true [.int .i64 t.1,.int .i64 t.2.1,.str []])::s2.h) st.nx=some (.cells 134 true [.int .i64 0,.int .i64 0,.str []]):=by
     rw[Ze,if_neg (by omega)];exact g2
    have xn:=e2.trans (Ext.new e2.wf (.cells 134 true [.int .i64 t.1,.int .i64 t.2.1,.str []]))
    by_cases h5:t.2.2=5
    ·by_cases hl:100<s.length
     ·have hl':(100:Int)<s.length:=by omega
      simp[go_sem,h5,hl,hl',Qj hgn,WO.run,Zg,Zm,Zr,RO.run,Qd (Zc hgn),toW,Yj,Vp]
      exact bad xn hgn _ _ _
     ·have hl':¬(100:Int)<s.length:=by omega
      simp[go_sem,h5,hl,hl',Qj hgn,WO.run,Zg,Zm,Zr,RO.run,Qd (Zc hgn),toW,Yj,Vp]
      exact bad xn hgn _ _ _
    ·simp[go_sem,h5,K5,Qj hgn,WO.run,Zg,Zm,Zr,RO.run,Qd (Zc hgn),toW,Yj,Vp]
     exact bad xn hgn _ _ _
end Go.Ev

/- The plain law of numbers: ints, with and without a base. -/
namespace Go.Ev
open Go
theorem Zpo {C1 C2:Nat} (hC:C1≤C2) {base:Int} (hb:1≤base.toNat):∀(s:List UInt8) (n:Nat),Jn C1 base (min n C1) s=(Jn C2 base n s).map fun v=>min v C1
 | [],n=>by simp[Jn]
 | c::s,n=>by
   simp only[Jn]
   split
   ·rfl
   ·have h:min (min n C1*base.toNat+Xi c) C1=min (min (n*base.toNat+Xi c) C2) C1:=by
     generalize base.toNat=b at hb
     generalize Xi c=d
     rw[Nat.min_assoc,Nat.min_eq_right hC]
     by_cases hn:n≤C1
     ·rw[Nat.min_eq_left hn]
     ·have h1:C1≤C1*b:=Nat.le_mul_of_pos_right _ hb
      have h2:C1*b≤n*b:=Nat.mul_le_mul_right _ (by omega)
      rw[Nat.min_eq_right (by omega:C1≤n),Nat.min_eq_right (by omega),Nat.min_eq_right (by omega)]
    rw[h]
    exact Zpo hC hb s _
theorem Zsr {base:Int} (hb:1≤base) (s:List UInt8):((J5 base s).2=true↔0≤X6 base s)∧((J5 base s).2=true→X6 base s=((min (J5 base s).1 8589934592:Nat):Int)):=by
 have h:=Zpo (C1:=8589934592) (C2:=1099511627776) (by omega) (base:=base) (by omega) s 0
 rw[Nat.zero_min]at h
 unfold J5 X6
 rw[h]
 cases hc:Jn 1099511627776 base 0 s with
 | none=>by_cases hs:s=[] <;> simp[hs]
 | some n=>by_cases hs:s=[] <;> simp[hs]
theorem Zph {sg:Int} (hsg:sg=1∨sg= -1) (n len:Nat):Nx (sg*((min n 8589934592:Nat):Int)) len=Nx (sg*n) len:=by
 by_cases h:n≤8589934592
 ·rw[Nat.min_eq_left h]
 ·have h1:min n 8589934592=8589934592:=by omega
  rw[h1]
  unfold Nx
  rcases hsg with rfl | rfl
  ·rw[if_pos (by omega),if_pos (by omega)]
  ·rw[if_pos (by omega),if_pos (by omega)]
theorem Zfi (n:Int) (len:Nat):(Nx n len).2.2≠5:=by
 unfold Nx;split <;> simp
theorem Zww (s:List UInt8):Zdk s=if 0≤X6 10 (Jp s).1 then Nx ((Jp s).2*X6 10 (Jp s).1) s.length else(0,0,5):=by
 obtain⟨h1,h2⟩:=Zsr (base:=10) (by omega) (Jp s).1
 unfold Zdk
 by_cases h:(J5 10 (Jp s).1).2=true
 ·rw[if_pos h,if_pos (h1.1 h),h2 h,Zph (Zfd s).2]
 ·rw[if_neg h,if_neg (fun h'=>h (h1.2 h'))]
theorem Zi0 (C:Nat) {base:Int} (hb:base≤36):∀(s:List UInt8) (n:Nat),35∈s→Jn C base n s=none
 | c::s,n,h=>by
   simp only[Jn]
   split
   ·rfl
   ·rename_i hc
    rcases List.mem_cons.1 h with rfl | h
    ·exact absurd (show (Xi 35:Int)≥base by have:Xi 35=99:=rfl;omega) hc
    ·exact Zi0 C hb s _ h
theorem Zzb {base:Int} (hb:base≤36) {s:List UInt8} (h:35∈s):X6 base s= -1:=by
 unfold X6
 rw[Zi0 _ hb s 0 h]
 split <;> rfl
theorem Zgd {s:List UInt8} {k i:Nat} (hk:s[k]? =some 35) (hki:k<i):U3 s i=none:=by
 have:35∈s.take i:=List.mem_of_getElem? (i:=k) (by rw[List.getElem?_take,if_pos hki];exact hk)
 unfold U3
 rw[Zzb (by omega) this]
 simp
theorem Zr5 {s:List UInt8} {k:Nat} (hk:s[k]? =some 35) (hk0:1≤k) (hk2:k≤2) (hks:k<s.length):
  (if(J5 10 (s.take k)).2=false∨2<(s.take k).length∨(J5 10 (s.take k)).1<2∨36<(J5 10 (s.take k)).1 then((0,0,5):Tk)
    else if(J5 (J5 10 (s.take k)).1 (s.drop (k+1))).2=true then Nx (J5 (J5 10 (s.take k)).1 (s.drop (k+1))).1 s.length else(0,0,5))=match U3 s k with | some n=>Nx n s.length | none=>(0,0,5):=by
 obtain⟨h1,h2⟩:=Zsr (base:=10) (by omega) (s.take k)
 have hl:¬2<(s.take k).length:=by rw[List.length_take];omega
 unfold U3
 by_cases ho:(J5 10 (s.take k)).2=true
 ·have hb:=h2 ho
  generalize (J5 10 (s.take k)).1=b at hb⊢
  by_cases hb2:b<2∨36<b
  ·have:¬(s[k]? =some 35∧2≤X6 10 (s.take k)∧X6 10 (s.take k)≤36∧0≤X6 (X6 10 (s.take k)) (s.drop (k+1))):=by rw[hb];omega
   rw[if_neg this,if_pos (by omega)]
  ·have hbb:X6 10 (s.take k)=(b:Int):=by rw[hb];omega
   rw[hbb,if_neg (by simp[ho];rw[List.length_take]at hl;omega)]
   obtain⟨h3,h4⟩:=Zsr (base:=(b:Int)) (by omega) (s.drop (k+1))
   by_cases hr:(J5 (b:Int) (s.drop (k+1))).2=true
   ·rw[if_pos hr,if_pos ⟨hk,by omega,by omega,h3.1 hr⟩]
    simp only
    rw[h4 hr]
    have:=Zph (sg:=1) (.inl rfl) (J5 (b:Int) (s.drop (k+1))).1 s.length
    simpa using this.symm
   ·rw[if_neg hr,if_neg (fun h=>hr (h3.2 h.2.2.2))]
 ·have hneg:¬0≤X6 10 (s.take k):=fun h=>ho (h1.2 h)
  rw[if_pos (.inl (by simpa using ho)),if_neg (by omega)]
theorem indexByte_ge:∀(s:List UInt8) (d:UInt8), -1≤Lib.indexByte s d
 | [],_=>by simp[Lib.indexByte]
 | c::r,d=>by
   have:=indexByte_ge r d
   simp only[Lib.indexByte]
   (repeat' split) <;> omega
theorem Zv6 (s:List UInt8):O4 s=match U3 s 1 with | some n=>Nx n s.length | none=>match U3 s 2 with | some n=>Nx n s.length | none=>(0,0,5):=by
 have hlt:=F4 s 35
 have tn:∀i,s[i]?≠some 35→U3 s i=none:=fun i h=>by simp[U3,h]
 by_cases h0:0≤Lib.indexByte s 35
 ·obtain⟨k,hk⟩:=Int.eq_ofNat_of_zero_le h0
  obtain⟨hs,hmin⟩:=Lib.indexByte_some hk
  have hks:k<s.length:=by omega
  have hcut:M7 35 s=(s.take k,s.drop (k+1),true):=by unfold M7;rw[if_pos h0,hk];rfl
  have hrt:O4 s=(if(J5 10 (s.take k)).2=false∨2<(s.take k).length∨(J5 10 (s.take k)).1<2∨36<(J5 10 (s.take k)).1 then((0,0,5):Tk)
    else if(J5 (J5 10 (s.take k)).1 (s.drop (k+1))).2=true then Nx (J5 (J5 10 (s.take k)).1 (s.drop (k+1))).1 s.length else(0,0,5)):=by
   unfold O4
   rw[hcut]
   simp
  rw[hrt]
  by_cases hk0:k=0
  ·subst hk0
   rw[Zgd hs (by omega),Zgd hs (by omega),if_pos (.inl (by simp[J5,Jn]))]
  by_cases hk1:k=1
  ·subst hk1
   rw[Zr5 hs (by omega) (by omega) hks,Zgd hs (i:=2) (by omega)]
  by_cases hk2:k=2
  ·subst hk2
   rw[Zr5 hs (by omega) (by omega) hks,tn 1 (hmin 1 (by omega))]
  ·rw[tn 1 (hmin 1 (by omega)),tn 2 (hmin 2 (by omega)),if_pos (.inr (.inl (by rw[List.length_take];omega)))]
 ·have hcut:M7 35 s=(s,[],false):=by unfold M7;rw[if_neg h0]
  have hge:=indexByte_ge s 35
  have hm1:Lib.indexByte s 35= -1:=by omega
  have hno:=Lib.indexByte_none hm1
  rw[tn 1 (hno 1),tn 2 (hno 2)]
  unfold O4
  rw[hcut,if_pos (.inl rfl)]
end Go.Ev

/- The plain law of numbers: decimals are read alike. -/
namespace Go.Ev
open Go
theorem X9 (c:UInt8):J4 c=true↔48≤c.toNat∧c.toNat≤57:=by simp[J4]
theorem Zmx:∀u:List UInt8,Jo true u=((Zw u).1,(Zw u).1.length,(Zw u).2)
 | []=>rfl
 | c::r=>by
   simp only[Jo,Zw]
   by_cases h:48≤c.toNat∧c.toNat≤57
   ·rw[if_pos ((X9 c).2 h),if_pos h,Zmx r]
    simp[Nat.add_comm]
   ·rw[if_neg (fun h'=>h ((X9 c).1 h')),if_neg h,if_neg (by simp)]
    rfl
theorem Zj1:∀u:List UInt8,Jo false u=if K4 [46] (Zw u).2=true then((Zw u).1++(Zw (Zw u).2.tail).1,(Zw (Zw u).2.tail).1.length,(Zw (Zw u).2.tail).2)else((Zw u).1,0,(Zw u).2)
 | []=>rfl
 | c::r=>by
   by_cases h:48≤c.toNat∧c.toNat≤57
   ·have hsp:Zw (c::r)=((c.toNat - 48)::(Zw r).1,(Zw r).2):=by simp[Zw,h]
    rw[hsp,Jo,if_pos ((X9 c).2 h),Zj1 r]
    simp only
    split <;> simp
   ·have hsp:Zw (c::r)=([],c::r):=by simp[Zw,h]
    rw[hsp,Jo,if_neg (fun h'=>h ((X9 c).1 h'))]
    by_cases h46:c=46
    ·subst h46
     rw[if_pos ⟨rfl,rfl⟩,Zmx]
     simp[K4]
    ·rw[if_neg (by simp[h46])]
     simp[K4,h46]
theorem Zuc (neg:Bool) (L:List Nat) (R:List UInt8) (k n1:Nat) (h:n1+k=L.length):
  (if L=[]then none else match R with
    | []=>some (neg,L, -(k:Int))
    | c::t=>
      if c≠101∧c≠69 then none
      else if(sgn t).2.length<1∨3<(sgn t).2.length then none
      else if(Zw (sgn t).2).2=[]then some (neg,L, -(k:Int)+(if(sgn t).1=true then -(Qz (Zw (sgn t).2).1:Int)else(Qz (Zw (sgn t).2).1:Int)))
      else none)=
  Option.map (fun p:Bool×List Nat×Int=>(p.1,p.2.1,p.2.2 - (p.2.1.length:Int))) (if L=[]then none
   else if K4 [101,69] R=true then
    if(Zw (sgn R.tail).2).1.length<1∨3<(Zw (sgn R.tail).2).1.length then none
    else if(Zw (sgn R.tail).2).2=[]then some (neg,L,(n1:Int)+(if(sgn R.tail).1=true then -(Qz (Zw (sgn R.tail).2).1:Int)else(Qz (Zw (sgn R.tail).2).1:Int)))
    else none
   else if R=[]then some (neg,L,(n1:Int))else none):=by
 by_cases hL:L=[]
 ·simp[hL]
 rw[if_neg hL,if_neg hL]
 cases R with
 | nil=>simp[K4];omega
 | cons c t=>
   by_cases hc:c≠101∧c≠69
   ·simp[K4,hc]
   ·have ho:K4 [101,69] (c::t)=true:=by
     simp only[K4,decide_eq_true_eq]
     by_cases h1:c=101
     ·simp[h1]
     ·by_cases h2:c=69
      ·simp[h2]
      ·exact absurd ⟨h1,h2⟩ hc
    have hl:=Wv (sgn t).2
    by_cases hz:(Zw (sgn t).2).2=[]
    ·rw[hz]at hl
     simp only[List.length_nil,Nat.add_zero]at hl
     cases hsg:(sgn t).1 <;> simp[hc,ho,hz,hl,hsg] <;> split <;> simp <;> omega
    ·by_cases hlen:(sgn t).2.length<1∨3<(sgn t).2.length <;> simp[hc,ho,hz,hlen]
theorem Zut (s:List UInt8):Dn s=(H5 s).map fun p=>(p.1,p.2.1,p.2.2 - (p.2.1.length:Int)):=by
 unfold Dn H5 Zd1 H6
 simp only[Zj1]
 generalize (sgn s).1=neg
 generalize (sgn s).2=u
 by_cases hp:K4 [46] (Zw u).2=true
 ·simp only[if_pos hp]
  exact Zuc neg _ _ _ _ (by simp)
 ·simp only[if_neg hp]
  exact Zuc neg _ _ 0 _ (by simp)
end Go.Ev

/- The plain law of numbers: a decimal without a point or an exponent is an int. -/
namespace Go.Ev
open Go
theorem Zt0 (s:List UInt8):(Jp s).1=(sgn s).2:=by
 rw[Pb]
 cases s with
 | nil=>rfl
 | cons c r=>
   simp only[sgn]
   by_cases h:c=45
   ·simp[h]
   ·by_cases h':c=43
    ·simp[h']
    ·simp[h,h']
theorem Zgq (C:Nat):∀(u:List UInt8) (n:Nat),(Zw u).2=[]→∃v,Jn C 10 n u=some v
 | [],n,_=>⟨n,rfl⟩
 | c::r,n,h=>by
   by_cases hc:48≤c.toNat∧c.toNat≤57
   ·have hsp:(Zw (c::r)).2=(Zw r).2:=by simp[Zw,hc]
    rw[hsp]at h
    have hd:Xi c=c.toNat - 48:=by simp[Xi,hc]
    simp only[Jn]
    rw[if_neg (by omega)]
    exact Zgq C r _ h
   ·have hsp:(Zw (c::r)).2=c::r:=by simp[Zw,hc]
    rw[hsp]at h
    cases h
theorem Zxe {u:List UInt8} (h:(Zw u).2=[]) (hu:u≠[]):0≤X6 10 u:=by
 obtain⟨v,hv⟩:=Zgq 8589934592 u 0 h
 unfold X6
 rw[if_neg hu,hv]
 exact Int.natCast_nonneg v
theorem Zv1 {s:List UInt8} (h:X3 [46,101,69] s=false) (hd:H5 s≠none):0≤X6 10 (Jp s).1:=by
 rw[Zt0]
 have hall:∀c∈s,c≠46∧c≠101∧c≠69:=by
  intro c hc
  simp[X3]at h
  have:=h c hc
  simpa using this
 have hu:∀c∈(sgn s).2,c∈s:=fun c hc=>by
  rw[(Ze7 s).1]at hc
  exact List.mem_of_mem_drop hc
 have hz:∀R:List UInt8,(∀c∈R,c∈s)→K4 [46] R=false∧K4 [101,69] R=false:=fun R hR=>by
  cases R with
  | nil=>exact⟨rfl,rfl⟩
  | cons c r=>
    have:=hall c (hR c List.mem_cons_self)
    simp[K4,this.1,this.2.1,this.2.2]
 have hsuf:∀c∈(Zw (sgn s).2).2,c∈s:=fun c hc=>by
  rw[Bq]at hc
  exact hu c (List.mem_of_mem_drop hc)
 obtain⟨z1,z2⟩:=hz _ hsuf
 have hR:H6 s=(Zw (sgn s).2).2:=by unfold H6;rw[if_neg (by simp[z1])]
 have hL:Zd1 s=(Zw (sgn s).2).1:=by unfold Zd1;rw[if_neg (by simp[z1])]
 unfold H5 at hd
 rw[hR,hL]at hd
 by_cases h1:(Zw (sgn s).2).1=[]
 ·rw[if_pos h1]at hd;exact absurd rfl hd
 ·by_cases h2:(Zw (sgn s).2).2=[]
  ·refine Zxe h2 fun h3=>h1 ?_
   rw[h3];rfl
  ·rw[if_neg h1,if_neg (by simp[z2]),if_neg h2]at hd
   exact absurd rfl hd
end Go.Ev

/- The plain law of numbers: a text whose runs of digits are cut to one digit is a decimal if the whole text is. -/
namespace Go.Ev
open Go
theorem Zhc:∀(pd:Bool) (t:List UInt8),Z3 pd false t=t
 | _,[]=>rfl
 | pd,c::r=>by
   simp only[Z3,Bool.false_and]
   rw[if_neg (by simp),Zhc]
theorem Dq {pd:Bool} {c:UInt8} (r:List UInt8) (h:J4 c=false) (hx:Fo c=false):Z3 pd true (c::r)=c::Z3 false true r:=by
 simp[Z3,h,hx]
theorem Zav {pd:Bool} {c:UInt8} (r:List UInt8) (h:J4 c=false) (hx:Fo c=true):Z3 pd true (c::r)=c::r:=by
 simp[Z3,h,hx,Zhc]
theorem Zhb {c:UInt8} (r:List UInt8) (h:J4 c=true) (hx:Fo c=false):Z3 false true (c::r)=c::Z3 true true r∧Z3 true true (c::r)=Z3 true true r:=by
 simp[Z3,h,hx]
theorem Zt8 {c:UInt8} (h:J4 c=true):Fo c=false:=by
 have:=(X9 c).1 h
 simp only[Fo,Bool.or_eq_false_iff,decide_eq_false_iff_not]
 exact⟨by rintro rfl;simp at this,by rintro rfl;simp at this⟩
theorem Zhd:∀r:List UInt8,Z3 true true r=Z3 false true (Zw r).2
 | []=>rfl
 | c::r=>by
   by_cases h:J4 c=true
   ·rw[(Zhb r h (Zt8 h)).2,Zhd r]
    have hd:=(X9 c).1 h
    simp[Zw,hd]
   ·have hf:J4 c=false:=by simpa using h
    have hd:¬(48≤c.toNat∧c.toNat≤57):=fun h'=>h ((X9 c).2 h')
    have hsp:(Zw (c::r)).2=c::r:=by simp[Zw,hd]
    rw[hsp]
    cases hx:Fo c with
    | true=>rw[Zav r hf hx,Zav r hf hx]
    | false=>rw[Dq r hf hx,Dq r hf hx]
theorem O9 (R:List UInt8):(Z3 false true R=[]↔R=[])∧(∀set,K4 set (Z3 false true R)=K4 set R):=by
 cases R with
 | nil=>simp[Z3]
 | cons c r=>
   have:∃r',Z3 false true (c::r)=c::r':=by
    simp only[Z3]
    rw[if_neg (by simp)]
    exact⟨_,rfl⟩
   obtain⟨r',h⟩:=this
   rw[h]
   simp[K4]
theorem Zhf {R:List UInt8} (h:∀c r,R=c::r→J4 c=false):Zw R=([],R):=by
 cases R with
 | nil=>rfl
 | cons c r=>
   have:=h c r rfl
   have hd:¬(48≤c.toNat∧c.toNat≤57):=fun h'=>by rw[(X9 c).2 h']at this;cases this
   simp[Zw,hd]
theorem I0:∀u:List UInt8,∀c r,(Zw u).2=c::r→J4 c=false
 | [],c,r,h=>by cases h
 | d::u,c,r,h=>by
   by_cases hd:48≤d.toNat∧d.toNat≤57
   ·have:(Zw (d::u)).2=(Zw u).2:=by simp[Zw,hd]
    rw[this]at h
    exact I0 u c r h
   ·have:(Zw (d::u)).2=d::u:=by simp[Zw,hd]
    rw[this]at h
    injection h with h1 h2
    subst h1
    cases hq:J4 d with
    | false=>rfl
    | true=>exact absurd ((X9 d).1 hq) hd
theorem Zb9 {R:List UInt8} (h:∀c r,R=c::r→J4 c=false):∀c r,Z3 false true R=c::r→J4 c=false:=by
 intro c r hs
 cases R with
 | nil=>cases hs
 | cons d u=>
   have hd:=h d u rfl
   simp only[Z3]at hs
   rw[if_neg (by simp)]at hs
   injection hs with h1 h2
   rw[←h1];exact hd
theorem E1 (u:List UInt8):(Zw (Z3 false true u)).2=Z3 false true (Zw u).2∧((Zw (Z3 false true u)).1=[]↔(Zw u).1=[])∧(Zw (Z3 false true u)).1.length≤1:=by
 cases u with
 | nil=>simp[Z3,Zw]
 | cons c r=>
   by_cases h:J4 c=true
   ·have hd:=(X9 c).1 h
    rw[(Zhb r h (Zt8 h)).1,Zhd r]
    have hn:=Zhf (Zb9 (I0 r))
    simp[Zw,hd,hn]
   ·have hf:J4 c=false:=by simpa using h
    have hd:¬(48≤c.toNat∧c.toNat≤57):=fun h'=>h ((X9 c).2 h')
    have hsp:Zw (c::r)=([],c::r):=by simp[Zw,hd]
    have hn:=Zhf (Zb9 (R:=c::r) (fun c' r' h'=>by injection h' with h1;rw[←h1];exact hf))
    rw[hsp,hn]
    simp
theorem Zha (s:List UInt8):sgn (Z3 false true s)=((sgn s).1,Z3 false true (sgn s).2):=by
 cases s with
 | nil=>rfl
 | cons c r=>
   have hk:∃r',Z3 false true (c::r)=c::r':=by
    simp only[Z3]
    rw[if_neg (by simp)]
    exact⟨_,rfl⟩
   by_cases h:c=45
   ·subst h
    rw[Dq r (by rfl) (by rfl)]
    simp[sgn]
   ·by_cases h':c=43
    ·subst h'
     rw[Dq r (by rfl) (by rfl)]
     simp[sgn]
    ·obtain⟨r',h2⟩:=hk
     have e1:sgn (c::r)=(false,c::r):=by simp[sgn,h,h']
     rw[e1]
     simp only
     rw[h2]
     simp[sgn,h,h']
theorem Ze8 {R:List UInt8} (h:K4 [46] R=true):(Z3 false true R).tail=Z3 false true R.tail:=by
 cases R with
 | nil=>simp[K4]at h
 | cons c r=>
   simp[K4]at h
   subst h
   rw[Dq r (by rfl) (by rfl)]
   rfl
theorem Zmd {R:List UInt8} (h:K4 [101,69] R=true):(Z3 false true R).tail=R.tail:=by
 cases R with
 | nil=>simp[K4]at h
 | cons c r=>
   simp[K4]at h
   rcases h with rfl | rfl
   ·rw[Zav r (by rfl) (by rfl)]
   ·rw[Zav r (by rfl) (by rfl)]
theorem Znp (s:List UInt8):H6 (Z3 false true s)=Z3 false true (H6 s)∧(Zd1 (Z3 false true s)=[]↔Zd1 s=[]):=by
 unfold H6 Zd1
 rw[Zha]
 simp only
 obtain⟨a1,a2,a3⟩:=E1 (sgn s).2
 have hh:=(O9 (Zw (sgn s).2).2).2 [46]
 rw[←a1]at hh
 by_cases hp:K4 [46] (Zw (sgn s).2).2=true
 ·rw[hp]at hh
  obtain⟨b1,b2,b3⟩:=E1 (Zw (sgn s).2).2.tail
  rw[if_pos hh,if_pos hp,if_pos hh,if_pos hp,a1,Ze8 hp]
  exact⟨b1,by rw[List.append_eq_nil_iff,List.append_eq_nil_iff,a2,b2]⟩
 ·have hh':¬K4 [46] (Zw (Z3 false true (sgn s).2)).2=true:=by rw[hh];exact hp
  rw[if_neg hh',if_neg hp,if_neg hh',if_neg hp]
  exact⟨a1,a2⟩
theorem Oc (s:List UInt8):H5 (Z3 false true s)=none↔H5 s=none:=by
 obtain⟨r1,r2⟩:=Znp s
 have hh:=O9 (H6 s)
 unfold H5
 rw[r1]
 by_cases hL:Zd1 s=[]
 ·rw[if_pos hL,if_pos (r2.2 hL)]
 ·rw[if_neg hL,if_neg (fun h=>hL (r2.1 h))]
  have ho:=hh.2 [101,69]
  by_cases he:K4 [101,69] (H6 s)=true
  ·rw[if_pos he,if_pos (by rw[ho];exact he),Zmd he]
   by_cases hlen:(Zw (sgn (H6 s).tail).2).1.length<1∨3<(Zw (sgn (H6 s).tail).2).1.length
   ·rw[if_pos hlen,if_pos hlen]
   ·rw[if_neg hlen,if_neg hlen]
    by_cases hz:(Zw (sgn (H6 s).tail).2).2=[]
    ·rw[if_pos hz,if_pos hz];simp
    ·rw[if_neg hz,if_neg hz]
  ·rw[if_neg he,if_neg (by rw[ho];exact he)]
   by_cases hz:H6 s=[]
   ·rw[if_pos hz,if_pos (hh.1.2 hz)];simp
   ·rw[if_neg hz,if_neg (fun h=>hz (hh.1.1 h))]
end Go.Ev
