/- Unquote told. -/
import Derived.Test.YthckfhllgpfidaaGreatDoorP05
import Derived.Test.YthckfhllgpfidaaGreatDoorP03
import Derived.Lib.SmallJoins
import Derived.Deep.Slices
import Derived.OpenShut
import Derived.Lib.IndexLaws
import Derived.Test.YthckfhllgpfidaaGreatDoorP04
import Derived.Stop.LaidErr
import Derived.Lib.LaidTab
import Derived.SizedLaws
import Derived.Lib.Join
set_option linter.unusedSimpArgs false
set_option linter.unusedVariables false
set_option linter.unusedSectionVars false
namespace Go.Ev
open Go
variable {T : Tab} {st : St}
theorem octN_used:∀(k n:Nat) (r:List UInt8),(octN k n r).2≤r.length
 | 0,_,_=>by simp[octN]
 | k+1,n,[]=>by simp[octN]
 | k+1,n,c::r=>by
   simp only[octN]
   split
   ·have:=octN_used k (8*n+(c.toNat - 48)) r
    simp only[List.length_cons];omega
   ·simp
theorem lineN_used (c:UInt8) (r:List UInt8):lineN c r≤r.length:=by
 unfold lineN
 split
 ·rename_i h
  cases r with
  | nil=>simp at h
  | cons=>simp
 ·omega
theorem esc_used {r o:List UInt8} {n:Nat} (h:esc r=some (o,n)):1≤n∧n≤r.length∧o.length≤n:=by
 cases r with
 | nil=>cases h
 | cons c r=>
   simp only[esc,Option.some.injEq]at h
   have h1:=lineN_used c r
   have h2:=octN_used 2 (c.toNat - 48) r
   split at h
   ·injection h with a b;subst a;subst b;simp
   ·split at h
    ·injection h with a b;subst a;subst b;simp;omega
    ·split at h
     ·injection h with a b;subst a;subst b;simp;omega
     ·injection h with a b;subst a;subst b;simp
theorem unq_left:∀{f d:Nat} {r out o l:List UInt8},unq f d r out=some (o,l)→l.length+1≤r.length
 | 0,_,_,_,_,_,h=>by cases h
 | f+1,d,[],_,_,_,h=>by cases h
 | f+1,d,c::r,out,o,l,h=>by
   simp only[unq]at h
   split at h
   ·split at h
    ·cases h
    ·have:=unq_left h
     simp only[List.length_drop,List.length_cons]at this⊢
     omega
   ·split at h
    ·have:=unq_left h
     simp only[List.length_cons]at this⊢;omega
    ·split at h
     ·split at h
      ·injection h with h;injection h with h1 h2;subst h2;simp
      ·have:=unq_left h
       simp only[List.length_cons]at this⊢;omega
     ·split at h
      ·have:=unq_left h
       simp only[List.length_drop,List.length_cons]at this⊢;omega
      ·have:=unq_left h
       simp only[List.length_cons]at this⊢;omega
theorem run_loop_q (H:B.H_lex_quoted_run T) {st0:St} {q:Nat} {s:List UInt8} (hs:s.length<1000000000000):∀(f d k:Nat) (out:List UInt8) (e:Env) (st1:St),s.length+1≤k+f→k≤s.length→1≤d→d≤k+1→out.length≤k→Ext st0 st1→QAt st0 st1 q s k out d→eget e 0= .ptr q 0→
  Res (run T (.loop B.lex_quoted_run_l0) e st1) fun x e' s'=>Ext st0 s'∧match unq f d (s.drop k) out with
   | none=>x= .ret∧eget e' 2= .bool false
   | some (o,r)=>x= .exit 0∧QAt st0 s' q s (s.length - r.length) o 0:=by
 intro f
 induction f with
 | zero=>intro d k out e st1 h1 h2;omega
 | succ f ih=>
   intro d k out e st1 hf hk hd1 hdk ho hx b g0
   obtain⟨b1,w,b2,b4,b5⟩:=id b
   have r3:rdCell st1.h q 3=some (.int .i64 d):=by simp[rdCell,b2]
   have hd0:(0:Int)<d:=by omega
   have hd0':0<d:=by omega
   rw[run_loop]
   simp[B.lex_quoted_run_l0,go_sem,g0,RO.run,r3,hd0,hd0']
   refine(next_res H.lex_quoted_next hx hs hk b).mono ?_
   rintro v1 s1 ⟨x1,⟨hc,rfl,q1⟩ | ⟨c,hc,rfl,q1⟩⟩
   ·have hd:s.drop k=[]:=by rw[List.drop_eq_nil_iff];exact List.getElem?_eq_none_iff.1 hc
    simp[go_sem,hd,unq,x1]
   ·have hkl:k<s.length:=by
     rcases Nat.lt_or_ge k s.length with h | h
     ·exact h
     ·rw[List.getElem?_eq_none h]at hc;cases hc
    obtain⟨c',hc',hd⟩:=idx_some hkl
    rw[hc]at hc';cases hc'
    by_cases h92:c=92
    ·subst h92
     simp[go_sem]
     refine(escape_res H.lex_quoted_escape x1 hs (by omega) (by omega) q1).mono ?_
     rintro v2 s2 ⟨x2,hv2⟩
     cases hes:esc (s.drop (k+1))with
     | none=>
       rw[hes]at hv2
       subst hv2
       simp[go_sem,hd,unq,hes,x2]
     | some p=>
       obtain⟨o,n⟩:=p
       rw[hes]at hv2
       obtain⟨rfl,q2⟩:=hv2
       obtain⟨u1,u2,u3⟩:=esc_used hes
       simp only[List.length_drop]at u2
       simp[go_sem]
       refine(ih d (k+1+n) (out++o) _ s2 (by omega) (by omega) hd1 (by omega) (by simp;omega) x2 q2 (by simp[go_sem])).mono ?_
       rintro x e' s' ⟨y1,y2⟩
       refine⟨y1,?_⟩
       rw[hd]
       simpa [unq,hes,List.drop_drop] using y2
    ·have n1:¬(c.toNat:Int)=92:=u8_ne h92 rfl
     have m1:¬c.toNat=92:=by omega
     obtain⟨p1,u,p2,p4,p5⟩:=id q1
     have r3':rdCell s1.h q 3=some (.int .i64 d):=by simp[rdCell,p2]
     have step:∀(d':Nat) (c':UInt8) (k':Nat) (s2:St) (e':Env) (st2:St),unq (f+1) d (s.drop k) out=unq f d' (s.drop k') (out++[c'])→k+1≤k'→k'≤s.length→1≤d'→d'≤k+2→Ext st0 st2→QAt st0 st2 q s k' (out++[c']) d'→eget e' 0= .ptr q 0→
       Res (run T (.loop B.lex_quoted_run_l0) e' st2) fun x e' s'=>Ext st0 s'∧match unq (f+1) d (s.drop k) out with
        | none=>x= .ret∧eget e' 2= .bool false
        | some (o,r)=>x= .exit 0∧QAt st0 s' q s (s.length - r.length) o 0:=by
      intro d' c' k' s2 e' st2 he h1 h2 h3 h3' h4 h5 h6
      rw[he]
      exact ih d' k' (out++[c']) e' st2 (by omega) h2 h3 (by omega) (by simp;omega) h4 h5 h6
     by_cases h40:c=40
     ·subst h40
      have e5:IntKind.i64.wrap ((d:Int)+1)=((d+1:Nat):Int):=wrap64' (by omega) (by omega)
      have hw3:wrCells s1.h q 3 [.int .i64 ((d+1:Nat):Int)]=some (hset s1.h q (.cells 164 false [.str s,.int .i64 (k+1:Nat),u,.int .i64 (d+1:Nat)])):=wr_cells p2 rfl (by simp)
      obtain⟨y1,y2⟩:=QAt.put (k':=k+1) (d':=((d+1:Nat):Int)) x1 p1 p2 p4 p5
      obtain⟨z,z1,z2⟩:=y2.push y1 (by omega) 40
      have hun:unq (f+1) d (s.drop k) out=unq f (d+1) (s.drop (k+1)) (out++[40]):=by rw[hd];simp[unq]
      obtain⟨D,hD⟩:∃D,D=d+1:=⟨_,rfl⟩
      obtain⟨k2,hk2⟩:∃k2,k2=k+1:=⟨_,rfl⟩
      rw[←hD]at e5 hw3 y1 y2 z1 z2 hun
      rw[←hk2]at hw3 y1 y2 z1 z2 hun
      generalize hU:unq (f+1) d (s.drop k) out=U at step⊢
      simp[go_sem,RO.run,WO.run,NO.run,r3',e5,hw3,z1,reps]
      refine z2.mono ?_
      rintro v4 s4 ⟨a4,h',w4,x4,q4⟩
      simp[go_sem,WO.run,a4,w4]
      exact step D 40 k2 s1 _ _ (hU.symm.trans hun) (by omega) (by omega) (by omega) (by omega) x4 q4 (by simp[go_sem])
     have n2:¬(c.toNat:Int)=40:=u8_ne h40 rfl
     have m2:¬c.toNat=40:=by omega
     by_cases h41:c=41
     ·subst h41
      have e5:IntKind.i64.wrap ((d:Int) - 1)=((d - 1:Nat):Int):=by rw[wrap64' (by omega) (by omega)];omega
      have hw3:wrCells s1.h q 3 [.int .i64 ((d - 1:Nat):Int)]=some (hset s1.h q (.cells 164 false [.str s,.int .i64 (k+1:Nat),u,.int .i64 (d - 1:Nat)])):=wr_cells p2 rfl (by simp)
      obtain⟨y1,y2⟩:=QAt.put (k':=k+1) (d':=((d - 1:Nat):Int)) x1 p1 p2 p4 p5
      have r3'':rdCell (hset s1.h q (.cells 164 false [.str s,.int .i64 (k+1:Nat),u,.int .i64 (d - 1:Nat)])) q 3=some (.int .i64 (d - 1:Nat)):=by simp[rdCell,hget_hset_self p2]
      obtain⟨z,z1,z2⟩:=y2.push y1 (by omega) 41
      by_cases hdd:d=1
      ·subst hdd
       have hd0:eget e 0= .ptr q 0:=g0
       have r0:rdCell (hset s1.h q (.cells 164 false [.str s,.int .i64 (k+1:Nat),u,.int .i64 (1 - 1:Nat)])) q 3=some (.int .i64 0):=r3''
       have hun:unq (f+1) 1 (s.drop k) out=some (out,s.drop (k+1)):=by rw[hd];simp[unq]
       have hlen:s.length - (s.drop (k+1)).length=k+1:=by rw[List.length_drop];omega
       rw[hun]
       simp only[hlen]
       have hc0:((1 - 1:Nat):Int)=0:=rfl
       obtain⟨k2,hk2⟩:∃k2,k2=k+1:=⟨_,rfl⟩
       rw[←hk2]at hw3 y1 y2 r0⊢
       rw[hc0]at hw3 y1 y2 r0 e5
       have r3s:rdCell s1.h q 3=some (.int .i64 1):=r3'
       have e50:IntKind.i64.wrap 0=0:=rfl
       simp[go_sem,RO.run,WO.run,NO.run,r3s,e5,e50,hw3,r0,reps]
       rw[run_loop]
       simp[B.lex_quoted_run_l0,go_sem,RO.run,r0]
       exact⟨y1,y2⟩
      ·have hun:unq (f+1) d (s.drop k) out=unq f (d - 1) (s.drop (k+1)) (out++[41]):=by rw[hd];simp[unq,hdd]
       obtain⟨D,hD⟩:∃D,D=d - 1:=⟨_,rfl⟩
       obtain⟨k2,hk2⟩:∃k2,k2=k+1:=⟨_,rfl⟩
       rw[←hD]at e5 hw3 y1 y2 z1 z2 hun r3''
       rw[←hk2]at hw3 y1 y2 z1 z2 hun r3''
       have hD0:¬(D:Int)=0:=by omega
       have hD0':¬D=0:=by omega
       generalize hU:unq (f+1) d (s.drop k) out=U at step⊢
       simp[go_sem,RO.run,WO.run,NO.run,r3',e5,hw3,r3'',hD0,hD0',z1,reps]
       refine z2.mono ?_
       rintro v4 s4 ⟨a4,h',w4,x4,q4⟩
       simp[go_sem,WO.run,a4,w4]
       exact step D 41 k2 s1 _ _ (hU.symm.trans hun) (by omega) (by omega) (by omega) (by omega) x4 q4 (by simp[go_sem])
     have n3:¬(c.toNat:Int)=41:=u8_ne h41 rfl
     have m3:¬c.toNat=41:=by omega
     by_cases hln:c=10∨c=13
     ·have hun:unq (f+1) d (s.drop k) out=unq f d (s.drop (k+1+lineN c (s.drop (k+1)))) (out++[10]):=by rw[hd];simp[unq,h92,h40,h41,hln,List.drop_drop]
      have hll:=line_res H.lex_quoted_line x1 hs (by omega) c q1
      have hlu:=lineN_used c (s.drop (k+1))
      rw[List.length_drop]at hlu
      generalize hU:unq (f+1) d (s.drop k) out=U at step⊢
      have hcn:(c.toNat:Int)=10∨(c.toNat:Int)=13:=by rcases hln with rfl | rfl <;> simp
      obtain⟨n,hn⟩:∃n:Int,n=c.toNat:=⟨_,rfl⟩
      generalize lineN c (s.drop (k+1))=L at hll hun hlu
      have tail:∀(s2:St),Ext st0 s2→QAt st0 s2 q s (k+1+L) out d→∃v,rdCell s2.h q 2=some v∧CRes (aappend 5 1 1 ⟨(s2.nx,.cells 5 false [.int .u8 10])::s2.h,s2.nx+1⟩ v (.slice s2.nx 0 1 (.known 1))) fun v' s'=>acells v'=[v']∧∃h',wrCells s'.h q 2 [v']=some h'∧Ext st0 ⟨h',s'.nx⟩∧QAt st0 ⟨h',s'.nx⟩ q s (k+1+L) (out++[10]) d:=fun s2 x2 q2=>q2.push x2 (by omega) 10
      rw[←hn]at hcn hll
      rcases hcn with rfl | rfl
      ·simp[go_sem,←hn]
       refine hll.mono ?_
       rintro v2 s2 ⟨x2,q2⟩
       obtain⟨z,z1,z2⟩:=tail s2 x2 q2
       simp[go_sem,RO.run,WO.run,NO.run,z1,reps]
       refine z2.mono ?_
       rintro v4 s4 ⟨a4,h',w4,x4,q4⟩
       simp[go_sem,WO.run,a4,w4]
       exact step d 10 _ s1 _ _ (hU.symm.trans hun) (by omega) (by omega) (by omega) (by omega) x4 q4 (by simp[go_sem])
      ·simp[go_sem,←hn]
       refine hll.mono ?_
       rintro v2 s2 ⟨x2,q2⟩
       obtain⟨z,z1,z2⟩:=tail s2 x2 q2
       simp[go_sem,RO.run,WO.run,NO.run,z1,reps]
       refine z2.mono ?_
       rintro v4 s4 ⟨a4,h',w4,x4,q4⟩
       simp[go_sem,WO.run,a4,w4]
       exact step d 10 _ s1 _ _ (hU.symm.trans hun) (by omega) (by omega) (by omega) (by omega) x4 q4 (by simp[go_sem])
     ·have hun:unq (f+1) d (s.drop k) out=unq f d (s.drop (k+1)) (out++[c]):=by rw[hd];simp[unq,h92,h40,h41,hln]
      simp only[not_or]at hln
      have n4:¬(c.toNat:Int)=10:=u8_ne hln.1 rfl
      have n5:¬(c.toNat:Int)=13:=u8_ne hln.2 rfl
      have m4:¬c.toNat=10:=by omega
      have m5:¬c.toNat=13:=by omega
      obtain⟨z,z1,z2⟩:=q1.push x1 (by omega) c
      generalize hU:unq (f+1) d (s.drop k) out=U at step⊢
      simp[go_sem,RO.run,WO.run,NO.run,n1,n2,n3,n4,n5,m1,m2,m3,m4,m5,z1,reps]
      refine z2.mono ?_
      rintro v4 s4 ⟨a4,h',w4,x4,q4⟩
      simp[go_sem,WO.run,a4,w4]
      exact step d c _ s1 _ _ (hU.symm.trans hun) (by omega) (by omega) (by omega) (by omega) x4 q4 (by simp[go_sem])
theorem run_res (H:B.H_lex_quoted_run T) {st0:St} (hx:Ext st0 st) {q k:Nat} {s out:List UInt8} {d:Int} (hs:s.length<1000000000000) (hk:k≤s.length) (ho:out.length≤k) (b:QAt st0 st q s k out d) {f:Nat} (hf:s.length+1≤k+f):
  CRes (call T (.fn 87 [] []) [.ptr q 0] st) fun v s'=>Ext st0 s'∧match unq f 1 (s.drop k) out with
   | none=>v= .bool false
   | some (o,r)=>v= .bool true∧QAt st0 s' q s (s.length - r.length) o 0:=by
 refine call_res H.e H.f rfl ?_
 obtain⟨b1,w,b2,b4,b5⟩:=id b
 have hw3:wrCells st.h q 3 [.int .i64 1]=some (hset st.h q (.cells 164 false [.str s,.int .i64 k,w,.int .i64 1])):=wr_cells b2 rfl (by simp)
 obtain⟨y1,y2⟩:=QAt.put (k':=k) (d':=((1:Nat):Int)) hx b1 b2 b4 b5
 simp[B.lex_quoted_run,go_sem,RO.run,WO.run,hw3]
 refine(run_loop_q H hs f 1 k out _ _ hf hk (by omega) (by omega) ho y1 y2 (by simp[go_sem])).mono ?_
 generalize unq f 1 (s.drop k) out=U
 rintro x e s' ⟨x1,h⟩
 cases U with
 | none=>
   obtain⟨rfl,g⟩:=h
   simp[go_sem,g]
   exact x1.dropGe hx.nx
 | some p=>
   obtain⟨o,r⟩:=p
   obtain⟨rfl,q2⟩:=h
   simp[go_sem]
   exact⟨x1.dropGe hx.nx,q2.dropLoc x1.wf⟩
def unquoteT (s:List UInt8):List UInt8×Nat×Int:=
 match s with
 | c::r=>if c=40 then match unq s.length 1 r []with
    | none=>([],0,5)
    | some (o,l)=>if 1000<o.length then([],0,26)else(o,s.length - l.length,0)
   else([],0,5)
 | []=>([],0,5)
def toU (t:List UInt8×Nat×Int):AV:= .tuple [.str t.1,.int .i64 (t.2.1:Int),.int .i64 t.2.2]
theorem unquote_tells (H:B.H_lex_Unquote T) (hwf:st.Wf) {s:List UInt8} (hs:s.length<1000000000000):Tells T st (.fn 69 [] []) [.str s] (toU (unquoteT s)):=by
 refine tells_of H.e H.f rfl ?_
 have hx:=Ext.new hwf (.cells 164 false [.str s,.int .i64 0,.nilslice,.int .i64 0])
 have hb:QAt st ⟨(st.nx,.cells 164 false [.str s,.int .i64 0,.nilslice,.int .i64 0])::st.h,st.nx+1⟩ st.nx s 0 [] 0:=⟨Nat.le_refl _,.nilslice,by simp[hget_cons],.nil _ _,by simp[AV.nms]⟩
 simp[B.lex_Unquote,go_sem,NO.run]
 refine(next_res H.lex_quoted_next hx hs (Nat.zero_le _) hb).mono ?_
 rintro v1 s1 ⟨x1,⟨hc,rfl,q1⟩ | ⟨c,hc,rfl,q1⟩⟩
 ·have:s=[]:=by
   cases s with
   | nil=>rfl
   | cons=>simp at hc
  subst this
  simp[go_sem,toU,unquoteT,x1]
 ·obtain⟨r,rfl⟩:∃r,s=c::r:=by
   cases s with
   | nil=>simp at hc
   | cons a r=>simp at hc;exact⟨r,by rw[hc]⟩
  by_cases h40:c=40
  ·subst h40
   have hr:=run_res H.lex_quoted_run x1 hs (by simp) (by simp) q1 (f:=r.length+1) (by simp;omega)
   have ht:unquoteT (40::r)=match unq (r.length+1) 1 r []with
    | none=>([],0,5)
    | some (o,l)=>if 1000<o.length then([],0,26)else(o,(40::r).length - l.length,0):=by simp[unquoteT]
   rw[ht]
   rw[show (40::r:List UInt8).drop (0+1)=r from rfl]at hr
   simp[go_sem]
   refine hr.mono ?_
   cases hu:unq (r.length+1) 1 r []with
   | none=>
     rintro v2 s2 ⟨x2,rfl⟩
     simp[go_sem,toU,x2]
   | some p=>
     obtain⟨o,l⟩:=p
     rintro v2 s2 ⟨x2,rfl,q2⟩
     obtain⟨b1,w,b2,b4,b5⟩:=id q2
     have r2:rdCell s2.h st.nx 2=some w:=by simp[rdCell,b2]
     have r1:rdCell s2.h st.nx 1=some (.int .i64 (((40::r).length - l.length:Nat):Int)):=by simp[rdCell,b2]
     have hsrc:=b4.1.rd.src
     have hu8:=toBytes_u8s o
     generalize hN:(40::r).length - l.length=N at r1⊢
     have hN':r.length+1 - l.length=N:=hN
     obtain⟨⟨m,hsl⟩,b6,b7⟩:=b4
     have xa:=fun n=>x2.trans (Ext.aside x2.wf n)
     rcases hsl with ⟨k1,k2,k3⟩ | ⟨k1,k2,k3⟩ | ⟨ty',k1,k2,k3⟩
     ·subst k1
      have:o=[]:=List.length_eq_zero_iff.1 k3
      subst this
      simp[go_sem,RO.run,r2,r1,hsrc,hu8,toU,xa,hN']
     ·subst k1
      have hrd:rdCells s2.h m 0 o.length=some (u8s o):=by
       simp[rdCells,k2,u8s_len]
       exact List.take_of_length_le (by rw[u8s_len];exact Nat.le_refl _)
      by_cases hlong:1000<o.length
      ·simp[go_sem,RO.run,r2,r1,hsrc,hu8,toU,xa,hlong,show (1000:Int)<o.length by omega,x2]
      ·simp[go_sem,RO.run,r2,r1,hrd,hu8,toU,xa,hN',hlong,show¬(1000:Int)<o.length by omega]
     ·exact absurd k1 (b7 _ _ _ _)
  ·have n1:¬(c.toNat:Int)=40:=u8_ne h40 rfl
   have m1:¬c.toNat=40:=by omega
   simp[go_sem,n1,m1,toU,unquoteT,h40,x1]
end Go.Ev

/- Valid tokens; Check. -/
namespace Go.Ev
open Go
variable {T : Tab} {st : St}
theorem tok_eq {a b a' b':Int} {c c':List UInt8}:cellsEqK [.i .i64,.i .i64,.s] [.int .i64 a,.int .i64 b,.str c] [.int .i64 a',.int .i64 b',.str c']=some (decide (a=a') && (decide (b=b') && (c == c'))):=by
 simp only[cellsEqK,cellEqK,seq8_eq]
 by_cases h1:a=a' <;> by_cases h2:b=b' <;> cases h3:(c == c') <;> simp[h1,h2]
theorem is110_tells (H:B.H_real_Is T) (hwf:st.Wf) {n:Int}:Tells T st (.fn 110 [] []) [.int .i64 n] (.bool (decide (-2147483648≤n) && decide (n≤2147483648))):=by
 refine tells_of H.e H.f rfl ?_
 by_cases h: -2147483648≤n
 ·simp[B.real_Is,go_sem,h,Ext.refl hwf]
 ·simp[B.real_Is,go_sem,h,Ext.refl hwf]
def namedT (k:Int) (t:List UInt8):Bool:=decide (t.length≤100) && regAll t && (decide (k≠3) || (!(t == []) && decide ((numT t).2.2=5)))
theorem named_tells (H:B.H_lex_named T) (hwf:st.Wf) {k n:Int} {t:List UInt8} (hs:t.length<4000000000000000000):Tells T st (.fn 111 [] []) [.agg [.int .i64 k,.int .i64 n,.str t]] (.bool (namedT k t)):=by
 refine tells_of H.e H.f rfl ?_
 have hx:=Ext.new hwf (.cells 134 true [.int .i64 k,.int .i64 n,.str t])
 have g:hget ((st.nx,AObj.cells 134 true [.int .i64 k,.int .i64 n,.str t])::st.h) st.nx=some (.cells 134 true [.int .i64 k,.int .i64 n,.str t]):=by simp[hget_cons]
 by_cases hl:100<t.length
 ·have hn:namedT k t=false:=by simp[namedT];omega
  simp[B.lex_named,go_sem,NO.run,WO.run,RO.run,rdCell,hget_cons,hl,show (100:Int)<t.length by omega,hn,hx]
 ·simp[B.lex_named,go_sem,NO.run,WO.run,RO.run,rdCell,hget_cons,hl,show¬(100:Int)<t.length by omega]
  refine(lexregular_tells H.lex_regular hx.wf (s:=t) (by omega)).use fun s1 hs1=> ?_
  have e1:=hx.trans hs1
  have g1:=hs1.get hx.wf g
  cases hr:regAll t with
  | false=>simp[go_sem,hr,namedT,e1]
  | true=>
    by_cases h3:k=3
    ·subst h3
     simp[go_sem,RO.run,rdCell,g1]
     refine(number_tells H.lex_Number e1.wf hs).use fun s2 hs2=> ?_
     have e2:=e1.trans hs2
     have g2:=hs2.get e1.wf g1
     have hnm:namedT 3 t=(!(t == []) && decide ((numT t).2.2=5)):=by simp[namedT,hr];omega
     rw[hnm]
     obtain⟨u,hu⟩:∃u,u=numT t:=⟨_,rfl⟩
     rw[←hu]
     have x3:=e2.trans (Ext.new e2.wf (.cells 134 true [.int .i64 u.1,.int .i64 u.2.1,.str []]))
     have hne:¬s2.nx=st.nx:=by have:=e2.wf.lt _ _ g2;omega
     by_cases hz:t=[]
     ·subst hz
      simp[go_sem,toA,tokA,tokC,NO.run,WO.run,RO.run,wr_tok,rdCell,hget_cons,hne,g2,seq8_eq,x3]
     ·have hq:t.isEmpty=false:=by cases t with | nil=>exact absurd rfl hz | cons=>rfl
      simp[go_sem,toA,tokA,tokC,NO.run,WO.run,RO.run,wr_tok,rdCell,hget_cons,hne,g2,seq8_eq,hq,x3]
    ·have hnm:namedT k t=true:=by simp[namedT,hr,h3];omega
     simp[go_sem,RO.run,rdCell,g1,h3,hnm,e1]
def markT (k n:Int) (t:List UInt8):Bool:=decide (k=3) && (decide (n=0) && ((t == [91]) || (t == [93]) || (t == [60,60]) || (t == [62,62])))
def rightT (k n:Int) (t:List UInt8):Bool:=
 if k=1 then decide (-2147483648≤n) && decide (n≤2147483647) && (t == [])
 else if k=2 then decide (-2147483648≤n) && decide (n≤2147483648) && (t == [])
 else if k=3∨k=4∨k=5 then markT k n t || (decide (n=0) && namedT k t)
 else if k=6 then decide (n=0) && decide (t.length≤1000)
 else(decide (k=7) || decide (k=8)) && (decide (n=0) && (t == []))
theorem right_loop {m:Nat} {k n:Int} {t:List UInt8} {e:Env} (hrd:rdCells st.h m 0 3=some [.int .i64 k,.int .i64 n,.str t]) (g1:eget e 1= .ptr m 0) (g36:eget e 36= .agg [.str [91],.str [93],.str [60,60],.str [62,62]]) (g37:eget e 37= .int .i64 0):
  Res (run T (.loop B.lex_right_l0) e st) (fun x e s=>s=st∧((x= .exit 1∧eget e 1= .ptr m 0∧markT k n t=false)∨(x= .ret∧eget e 2= .bool true∧markT k n t=true))):=by
 have w0:IntKind.i64.wrap 1=1:=rfl
 have w1:IntKind.i64.wrap 2=2:=rfl
 have w2:IntKind.i64.wrap 3=3:=rfl
 have w3:IntKind.i64.wrap 4=4:=rfl
 by_cases hk:k=3
 ·by_cases hn:n=0
  ·subst hk;subst hn
   rw[run_loop]
   by_cases h0:t=[91]
   ·simp[B.lex_right_l0,go_sem,RO.run,hrd,tok_eq,g1,g36,g37,h0,markT]
   simp[B.lex_right_l0,go_sem,RO.run,hrd,tok_eq,g1,g36,g37,h0]
   rw[run_loop]
   by_cases h1:t=[93]
   ·simp[B.lex_right_l0,go_sem,RO.run,hrd,tok_eq,w0,h1,markT]
   simp[B.lex_right_l0,go_sem,RO.run,hrd,tok_eq,w0,h1]
   rw[run_loop]
   by_cases h2:t=[60,60]
   ·simp[B.lex_right_l0,go_sem,RO.run,hrd,tok_eq,w1,h2,markT]
   simp[B.lex_right_l0,go_sem,RO.run,hrd,tok_eq,w1,h2]
   rw[run_loop]
   by_cases h3:t=[62,62]
   ·simp[B.lex_right_l0,go_sem,RO.run,hrd,tok_eq,w2,h3,markT]
   simp[B.lex_right_l0,go_sem,RO.run,hrd,tok_eq,w2,h3]
   rw[run_loop]
   simp[B.lex_right_l0,go_sem,RO.run,w3,markT,h0,h1,h2,h3]
  ·have hm:markT k n t=false:=by simp[markT,hn]
   rw[hm]
   rw[run_loop]
   simp[B.lex_right_l0,go_sem,RO.run,hrd,tok_eq,g1,g36,g37,hn]
   rw[run_loop]
   simp[B.lex_right_l0,go_sem,RO.run,hrd,tok_eq,w0,hn]
   rw[run_loop]
   simp[B.lex_right_l0,go_sem,RO.run,hrd,tok_eq,w1,hn]
   rw[run_loop]
   simp[B.lex_right_l0,go_sem,RO.run,hrd,tok_eq,w2,hn]
   rw[run_loop]
   simp[B.lex_right_l0,go_sem,RO.run,w3]
 ·have hm:markT k n t=false:=by simp[markT,hk]
  rw[hm]
  rw[run_loop]
  simp[B.lex_right_l0,go_sem,RO.run,hrd,tok_eq,g1,g36,g37,hk]
  rw[run_loop]
  simp[B.lex_right_l0,go_sem,RO.run,hrd,tok_eq,w0,hk]
  rw[run_loop]
  simp[B.lex_right_l0,go_sem,RO.run,hrd,tok_eq,w1,hk]
  rw[run_loop]
  simp[B.lex_right_l0,go_sem,RO.run,hrd,tok_eq,w2,hk]
  rw[run_loop]
  simp[B.lex_right_l0,go_sem,RO.run,w3]
theorem right_tells (H:B.H_lex_right T) (hwf:st.Wf) {k n:Int} {t:List UInt8} (hs:t.length<4000000000000000000):Tells T st (.fn 93 [] []) [.agg [.int .i64 k,.int .i64 n,.str t]] (.bool (rightT k n t)):=by
 refine tells_of H.e H.f rfl ?_
 have hx:=Ext.new hwf (.cells 134 true [.int .i64 k,.int .i64 n,.str t])
 have g:hget ((st.nx,AObj.cells 134 true [.int .i64 k,.int .i64 n,.str t])::st.h) st.nx=some (.cells 134 true [.int .i64 k,.int .i64 n,.str t]):=by simp[hget_cons]
 by_cases h1:k=1
 ·subst h1
  by_cases a1: -2147483648≤n
  ·by_cases a2:n≤2147483647
   ·simp[B.lex_right,go_sem,NO.run,WO.run,RO.run,rdCell,hget_cons,a1,a2,rightT,seq8_eq,hx]
   ·simp[B.lex_right,go_sem,NO.run,WO.run,RO.run,rdCell,hget_cons,a1,a2,rightT,seq8_eq,hx]
  ·simp[B.lex_right,go_sem,NO.run,WO.run,RO.run,rdCell,hget_cons,a1,rightT,seq8_eq,hx]
 by_cases h2:k=2
 ·subst h2
  simp[B.lex_right,go_sem,NO.run,WO.run,RO.run,rdCell,hget_cons]
  refine(is110_tells H.real_Is hx.wf).use fun s1 hs1=> ?_
  have e1:=hx.trans hs1
  have g1:=hs1.get hx.wf g
  by_cases a1: -2147483648≤n∧n≤2147483648
  ·simp[go_sem,RO.run,rdCell,g1,a1,rightT,seq8_eq,e1]
  ·have:(decide (-2147483648≤n) && decide (n≤2147483648))=false:=by simpa using a1
   simp[go_sem,RO.run,rdCell,g1,this,rightT,seq8_eq,e1]
 by_cases h3:k=3∨k=4∨k=5
 ·have hr3:rdCells ((st.nx,AObj.cells 134 true [.int .i64 k,.int .i64 n,.str t])::st.h) st.nx 0 3=some [.int .i64 k,.int .i64 n,.str t]:=rd_tok ..
  have lp:=fun e a b c=>right_loop (T:=T) (e:=e) (st:=⟨(st.nx,AObj.cells 134 true [.int .i64 k,.int .i64 n,.str t])::st.h,st.nx+1⟩) hr3 a b c
  have hrt:rightT k n t=(markT k n t || (decide (n=0) && namedT k t)):=by
   unfold rightT
   rw[if_neg (by omega),if_neg (by omega),if_pos h3]
  rw[hrt]
  generalize markT k n t=BB at lp⊢
  rcases h3 with rfl | rfl | rfl
  ·simp[B.lex_right,go_sem,NO.run,WO.run,RO.run,rdCell,hget_cons]
   refine(lp _ (by simp[go_sem]) (by simp[go_sem]) (by simp[go_sem])).mono ?_
   rintro x e' s' ⟨rfl,⟨rfl,k1,k2⟩ | ⟨rfl,k1,k2⟩⟩
   ·by_cases a1:n=0
    ·subst a1
     simp[go_sem,k1,RO.run,rdCell,hget_cons,rd_tok]
     refine(named_tells H.lex_named hx.wf hs).use fun s1 hs1=> ?_
     simp[go_sem,k2,hx.trans hs1]
    ·simp[go_sem,k1,RO.run,rdCell,hget_cons,rd_tok,a1,k2,hx]
   ·simp[go_sem,k1,k2,hx]
  ·simp[B.lex_right,go_sem,NO.run,WO.run,RO.run,rdCell,hget_cons]
   refine(lp _ (by simp[go_sem]) (by simp[go_sem]) (by simp[go_sem])).mono ?_
   rintro x e' s' ⟨rfl,⟨rfl,k1,k2⟩ | ⟨rfl,k1,k2⟩⟩
   ·by_cases a1:n=0
    ·subst a1
     simp[go_sem,k1,RO.run,rdCell,hget_cons,rd_tok]
     refine(named_tells H.lex_named hx.wf hs).use fun s1 hs1=> ?_
     simp[go_sem,k2,hx.trans hs1]
    ·simp[go_sem,k1,RO.run,rdCell,hget_cons,rd_tok,a1,k2,hx]
   ·simp[go_sem,k1,k2,hx]
  ·simp[B.lex_right,go_sem,NO.run,WO.run,RO.run,rdCell,hget_cons]
   refine(lp _ (by simp[go_sem]) (by simp[go_sem]) (by simp[go_sem])).mono ?_
   rintro x e' s' ⟨rfl,⟨rfl,k1,k2⟩ | ⟨rfl,k1,k2⟩⟩
   ·by_cases a1:n=0
    ·subst a1
     simp[go_sem,k1,RO.run,rdCell,hget_cons,rd_tok]
     refine(named_tells H.lex_named hx.wf hs).use fun s1 hs1=> ?_
     simp[go_sem,k2,hx.trans hs1]
    ·simp[go_sem,k1,RO.run,rdCell,hget_cons,rd_tok,a1,k2,hx]
   ·simp[go_sem,k1,k2,hx]
 simp only[not_or]at h3
 by_cases h6:k=6
 ·subst h6
  by_cases a1:n=0
  ·subst a1
   simp[B.lex_right,go_sem,NO.run,WO.run,RO.run,rdCell,hget_cons,rightT,hx]
   omega
  ·simp[B.lex_right,go_sem,NO.run,WO.run,RO.run,rdCell,hget_cons,a1,rightT,hx]
 ·by_cases h7:k=7
  ·subst h7
   by_cases hb:n=0∧t=[]
   ·obtain⟨rfl,rfl⟩:=hb
    simp[B.lex_right,go_sem,NO.run,WO.run,RO.run,rdCell,hget_cons,rightT,rd_tok,tok_eq,hx]
   ·have hb1:(decide (n=0) && t.isEmpty)=false:=by simpa using hb
    have hb2:(n=0→¬t=[]):=fun a b=>hb ⟨a,b⟩
    simp[B.lex_right,go_sem,NO.run,WO.run,RO.run,rdCell,hget_cons,rightT,rd_tok,tok_eq,hb1,hx]
  ·simp[B.lex_right,go_sem,NO.run,WO.run,RO.run,rdCell,hget_cons,rightT,rd_tok,tok_eq,h1,h2,h3,h6,h7,hx]
theorem check_tells (H:B.H_lex_Check T) (hwf:st.Wf) {k n:Int} {t:List UInt8} (hs:t.length<4000000000000000000):Tells T st (.fn 74 [] []) [.agg [.int .i64 k,.int .i64 n,.str t]] (.int .i64 (if rightT k n t=true then 0 else 130)):=by
 refine tells_of H.e H.f rfl ?_
 have hx:=Ext.new hwf (.cells 134 true [.int .i64 k,.int .i64 n,.str t])
 simp[B.lex_Check,go_sem,NO.run,WO.run,RO.run,rd_tok]
 refine(right_tells H.lex_right hx.wf hs).use fun s1 hs1=> ?_
 have e1:=hx.trans hs1
 cases hr:rightT k n t <;> simp[go_sem,hr,e1]
end Go.Ev

/- The chapter's examples. -/
namespace Go.Ev
open Go
variable {T : Tab} {st : St}
end Go.Ev

/- LexKnown told. -/
namespace Go.Ev
open Go
variable {T : Tab} {st : St}
def zeros:List UInt8:=Lib.repeatL [48] 39
theorem zl:zeros.length=39:=by kernel_rfl
end Go.Ev

/- LexNests told. -/
namespace Go.Ev
open Go
variable {T : Tab} {st : St}
end Go.Ev

/- Octets among the arguments: what they are, and the names of their blocks. -/
namespace Go.Ev
open Go Go.RowKit Go.ChangeShapes Go.WideShapes Go.Deep Go.Joins
def stOne (cs:List AV):St:=⟨[(2,.ro cs)],3⟩
theorem stNone_wf (n:Nat):St.Wf ⟨[],n⟩:=⟨(fun n o h=>by cases h),(by simp)⟩
section
variable {H : Type} {enc : TypeId × Value → H} {P : Program} {w : World} {base : Nat} {spare : Nat → Bool} {held : Bool}
end
end Go.Ev

/- The reference's Unquote: its parts. -/
namespace Go.Ev
open Go
variable {T : Tab} {st : St}
theorem Grow.app {st0 s1:St} (hF:st0.nx≤s1.nx) (hw:s1.Wf) {v x:AV} {l m:List UInt8} (a:Grow st0 s1 v l) (hx:Rd s1.h x 1 m.length (u8s m)) (hl:l.length+m.length<35184372088831):
  CRes (aappend 5 1 1 s1 v x) fun v' s=>Grow st0 s v' (l++m)∧Frm v.nms s1 s:=by
 obtain⟨a1,a2,a3⟩:=a
 have hap:=Sl.append (x:=x) (j:=m.length) (new:=u8s m) (b:=1) (Frm.refl hw v.nms) (fun n h=> .inl h) a1 hx (by simp[u8s,AV.sc]) (by omega) (by omega) (.inr fun n c h=>a3 _ _ _ _ h)
 refine(hap.also (fun _ _ h=>aappend_nk h a3)).mono ?_
 rintro v2 s2 ⟨⟨k1,k2,k3,_⟩,hnk2⟩
 refine⟨⟨by rw[u8s_append,List.length_append];exact k1,fun n hn=> ?_,hnk2⟩,k2⟩
 rcases k3 n hn with h | h
 ·exact a2 n h
 ·exact .inr (Nat.le_trans hF h)
end Go.Ev

/- The reference's Unquote told. -/
namespace Go.Ev
open Go
variable {T : Tab} {st : St}
end Go.Ev

/- The reference's Quote; LexQuotes told. -/
namespace Go.Ev
open Go
variable {T : Tab} {st : St}
end Go.Ev

/- The reference's reader of decimals. -/
namespace Go.Ev
open Go
variable {T : Tab} {st : St}
def mant:Bool→List UInt8→List Nat×Nat×List UInt8
 | _,[]=>([],0,[])
 | pt,c::r=>
   if isDig c=true then((c.toNat - 48)::(mant pt r).1,(if pt=true then 1 else 0)+(mant pt r).2.1,(mant pt r).2.2)
   else if c=46∧pt=false then mant true r
   else([],0,c::r)
end Go.Ev

/- The reference's Read told. -/
namespace Go.Ev
open Go
variable {T : Tab} {st : St}
def MCode.a:MCode→MCode
 | .seq x _=>x
 | c=>c
def MCode.b:MCode→MCode
 | .seq _ y=>y
 | c=>c
theorem ab_seq (x y:MCode):(MCode.seq x y).a=x∧(MCode.seq x y).b=y:=⟨rfl,rfl⟩
def rb:Nat→MCode
 | 0=>B.chaseref01_Read.body
 | k+1=>(rb k).b
theorem cut {T:Tab} {c:MCode} (hc:c= .seq c.a c.b) (hA:∀l,c.a≠.keep l) {e:Env} {Q:Ex→Env→St→Prop} (P:Ex→Env→St→Prop) (h1:Res (run T c.a e st) P) (h2:∀x e s,P x e s→kSeq T c.b Q x e s):Res (run T c e st) Q:=by
 rw[hc]
 exact seq_cut P hA h1 h2
end Go.Ev

/- Digits multiplied. -/
namespace Go.Ev
open Go
variable {T : Tab} {st : St}
theorem div10 (N:Nat):(N:Int).tmod 10=((N % 10:Nat):Int)∧(N:Int).tdiv 10=((N / 10:Nat):Int):=by
 refine⟨?_,?_⟩
 ·rw[Int.tmod_eq_emod_of_nonneg (by omega)];omega
 ·rw[Int.tdiv_eq_ediv_of_nonneg (by omega)];omega
end Go.Ev

/- The reference's Parse told. -/
namespace Go.Ev
open Go
variable {T : Tab} {st : St}
end Go.Ev

/- The reference's Number. -/
namespace Go.Ev
open Go
variable {T : Tab} {st : St}
def nb:Nat→MCode
 | 0=>B.chaseref03_Number.body
 | k+1=>(nb k).b
end Go.Ev

/- The reference's Word told. -/
namespace Go.Ev
open Go
variable {T : Tab} {st : St}
end Go.Ev

/- The plain law of numbers: ints, with and without a base. -/
namespace Go.Ev
open Go
end Go.Ev

/- The plain law of numbers: decimals are read alike. -/
namespace Go.Ev
open Go
end Go.Ev

/- The plain law of numbers: a decimal without a point or an exponent is an int. -/
namespace Go.Ev
open Go
end Go.Ev

/- The plain law of numbers: a text whose runs of digits are cut to one digit is a decimal if the whole text is. -/
namespace Go.Ev
open Go
end Go.Ev

/- The plain law of numbers: values. -/
namespace Go.Ev
open Go
end Go.Ev

/- LexNumbers: the marks, drawn into a text. -/
namespace Go.Ev
open Go
variable {T : Tab} {st : St}
end Go.Ev

/- LexNumbers told, if Number and Word are the reference's. -/
namespace Go.Ev
open Go
variable {T : Tab} {st : St}
end Go.Ev

/- The plain law of numbers: the mark's decimals and the reference's. -/
namespace Go.Ev
open Go
end Go.Ev

/- The abstract bodies of the functions, printed by a program of this work. -/
namespace Go.Ev.B
open Go
def chaseref03_Draft_Token_l0:MCode:=(.seq (.keep [1,2,3,4,5]) (.seq (.seq (.reg [p 37 (.mov 5),p 38 (.faddr 2 1),r 39 (.load none 38),p 40 (.lenOf true 39),p 41 (.bin .lss
 37 40),p 42 (.mov 41),pg 43 42 true (.mov 5),pg 44 42 true (.bin .lss 43 (.k (.int .i64 20))),p 45 (.pick 42 44 (.k (.bool false)))]) (.cond 45 .skip (.exit 1))) (.seq (.keep [1,
 2,3,4,5]) (.seq (.block 2 (.seq (.reg [p 48 (.faddr 2 1),r 49 (.load none 48),p 50 (.mov 5),p 51 (.idxS 49 50),w 52 (.call (.k (.fn 68 [] [])) [51])]) (.cond 52 (.reg [p 53 (.mov
 4),p 54 (.faddr 2 1),r 55 (.load none 54),p 56 (.mov 5),p 57 (.idxS 55 56),n 58 (.buildSl 5 1 [(.int .u8 0)] [(0,1,57)]),w 59 (.append 5 1 1 [(.int .u8 0)] 53 58),p 4 (.mov
 59)]) .skip))) (.seq (.keep [1,2,3,4,5]) (.reg [p 46 (.mov 5),p 47 (.bin .add 46 (.k (.int .i64 1))),p 5 (.mov 47)]))))))
def chaseref03_Draft_Token:MFun:=⟨1,[.cell 2 (some 3)],(.seq (.reg [n 1 (.box 205 true 0),n 2 (.alloc 134 true [(.int .i64 0),(.int .i64 0),(.str [])])]) (.seq (.reg [p 7 (.faddr
 0 1),r 8 (.load none 7),p 9 (.bin .rem 8 (.k (.int .u8 8))),p 10 (.conv .i64 9),p 11 (.bin .add (.k (.int .i64 1)) 10),p 3 (.mov 11)]) (.seq (.seq (.reg [p 12 (.mov 3)]) (.block
 0 (.seq (.seq (.reg [p 14 (.bin .eql 12 (.k (.int .i64 1))),p 13 (.mov 14)]) (.cond 13 .skip (.reg [p 15 (.bin .eql 12 (.k (.int .i64 2))),p 13 (.mov 15)]))) (.cond 13 (.seq (.reg
 [p 16 (.mov 3),p 17 (.faddr 1 1),r 18 (.load none 17),p 19 (.conv .i64 18),p 20 (.build [(.int .i64 0),(.int .i64 0),(.str [])] [(0,1,16),(1,1,19)]),w0 (.store 3 2 20)])
 .ret) (.seq (.reg [p 22 (.bin .eql 12 (.k (.int .i64 6))),p 21 (.mov 22)]) (.cond 21 (.seq (.reg [p 23 (.mov 3),p 24 (.faddr 2 1),r 25 (.load none 24),p 26 (.faddr 2 1),r 27 (.load
 none 26),p 28 (.lenOf true 27),p 29 (.minmax false [28,(.k (.int .i64 60))]),p 30 (.subS 25 none (some 29)),p 31 (.build [(.int .i64 0),(.int .i64 0),(.str [])] [(0,1,23),
 (2,1,30)]),w0 (.store 3 2 31)]) .ret) (.seq (.seq (.reg [p 33 (.bin .eql 12 (.k (.int .i64 7))),p 32 (.mov 33)]) (.cond 32 .skip (.reg [p 34 (.bin .eql 12 (.k (.int .i64 8))),p
 32 (.mov 34)]))) (.cond 32 (.seq (.reg [p 35 (.mov 3),p 36 (.build [(.int .i64 0),(.int .i64 0),(.str [])] [(0,1,35)]),w0 (.store 3 2 36)]) .ret) .skip)))))))) (.seq (.keep [1,
 2,3]) (.seq (.reg [p 4 (.mov (.k .nilslice))]) (.seq (.seq (.reg [p 5 (.mov (.k (.int .i64 0)))]) (.block 1 (.loop chaseref03_Draft_Token_l0))) (.seq (.keep [1,2,3,4]) (.seq (.reg
 [p 60 (.mov 3),p 61 (.mov 4),r 62 (.b2s 61),p 63 (.build [(.int .i64 0),(.int .i64 0),(.str [])] [(0,1,60),(2,1,62)]),n 6 (.alloc 134 true [(.int .i64 0),(.int .i64 0),
 (.str [])]),w0 (.store 3 6 63)]) (.seq (.seq (.reg [p 64 (.mov 3),p 65 (.bin .eql 64 (.k (.int .i64 3))),p 66 (.mov 65),rg 67 66 true (.load (some 3) 6),wg 68 66 true (.call (.k
 (.fn 129 [] [])) [67]),pg 69 66 true (.un .not 68),p 70 (.pick 66 69 (.k (.bool false)))]) (.cond 70 (.reg [n 71 (.buildSl 9 7 [(.str []),(.str []),(.str []),(.str []),(.str []),
 (.str []),(.str [])] [(0,1,(.k (.str [97]))),(1,1,(.k (.str [91]))),(2,1,(.k (.str [93]))),(3,1,(.k (.str [60,60]))),(4,1,(.k (.str [62,62]))),(5,1,(.k (.str [120,
 45,49]))),(6,1,(.k (.str [61])))]),p 72 (.faddr 0 1),r 73 (.load none 72),p 74 (.bin .quo 73 (.k (.int .u8 8))),p 75 (.bin .rem 74 (.k (.int .u8 7))),p 76 (.iaddrS 1 71 75),
 r 77 (.load none 76),p 78 (.faddr 2 6),w0 (.store 1 78 77)]) .skip)) (.seq (.keep [2,6]) (.seq (.reg [r 79 (.load (some 3) 6),w0 (.store 3 2 79)]) .ret)))))))))))⟩
def lex_Text:MFun:=⟨1,[.t 2,.t 3],(.seq (.reg [n 1 (.box 134 true 0),p 2 (.mov (.k (.str []))),p 3 (.mov (.k (.int .i64 0)))]) (.seq (.seq (.reg [r 5 (.load (some 3) 1),w
 6 (.call (.k (.fn 74 [] [])) [5]),p 4 (.mov 6)]) (.seq (.reg [p 7 (.mov 4),p 8 (.bin .neq 7 (.k (.int .i64 0)))]) (.cond 8 (.seq (.reg [p 9 (.mov 4),p 2 (.mov (.k (.str []))),p
 3 (.mov 9)]) .ret) .skip))) (.seq (.keep [1]) (.seq (.seq (.reg [p 10 (.faddr 0 1),r 11 (.load none 10)]) (.block 0 (.seq (.reg [p 13 (.bin .eql 11 (.k (.int .i64 1))),p 12 (.mov
 13)]) (.cond 12 (.seq (.reg [p 14 (.faddr 1 1),r 15 (.load none 14),w 16 (.call (.k (.fn 132 [] [])) [15]),p 2 (.mov 16),p 3 (.mov (.k (.int .i64 0)))]) .ret) (.seq (.reg [p 18
 (.bin .eql 11 (.k (.int .i64 2))),p 17 (.mov 18)]) (.cond 17 (.seq (.reg [p 19 (.faddr 1 1),r 20 (.load none 19),w 21 (.call (.k (.fn 133 [] [])) [20]),p 22 (.extr 0 21),p 23 (.extr
 1 21),p 2 (.mov 22),p 3 (.mov 23)]) .ret) (.seq (.reg [p 25 (.bin .eql 11 (.k (.int .i64 4))),p 24 (.mov 25)]) (.cond 24 (.seq (.reg [p 26 (.faddr 2 1),r 27 (.load none 26),p 28
 (.bin .add (.k (.str [47])) 27),p 2 (.mov 28),p 3 (.mov (.k (.int .i64 0)))]) .ret) (.seq (.reg [p 30 (.bin .eql 11 (.k (.int .i64 5))),p 29 (.mov 30)]) (.cond 29 (.seq (.reg [p
 31 (.faddr 2 1),r 32 (.load none 31),p 33 (.bin .add (.k (.str [47,47])) 32),p 2 (.mov 33),p 3 (.mov (.k (.int .i64 0)))]) .ret) (.seq (.reg [p 35 (.bin .eql 11 (.k (.int .i64
 6))),p 34 (.mov 35)]) (.cond 34 (.seq (.reg [p 36 (.faddr 2 1),r 37 (.load none 36),w 38 (.call (.k (.fn 71 [] [])) [37]),p 2 (.mov 38),p 3 (.mov (.k (.int .i64 0)))]) .ret) (.seq
 (.reg [p 40 (.bin .eql 11 (.k (.int .i64 7))),p 39 (.mov 40)]) (.cond 39 (.seq (.reg [p 2 (.mov (.k (.str [123]))),p 3 (.mov (.k (.int .i64 0)))]) .ret) (.seq (.reg [p 42 (.bin .eql
 11 (.k (.int .i64 8))),p 41 (.mov 42)]) (.cond 41 (.seq (.reg [p 2 (.mov (.k (.str [125]))),p 3 (.mov (.k (.int .i64 0)))]) .ret) .skip)))))))))))))))) (.seq (.keep [1]) (.seq (.reg
 [p 43 (.faddr 2 1),r 44 (.load none 43),p 2 (.mov 44),p 3 (.mov (.k (.int .i64 0)))]) .ret))))))⟩
def real_Print:MFun:=⟨1,[.t 2,.t 3],(.seq (.reg [n 1 (.box 3 true 0),p 2 (.mov (.k (.str []))),p 3 (.mov (.k (.int .i64 0)))]) (.seq (.reg [p 4 (.mkfn 136 [] [1]),r 5 (.load
 none 1),n 6 (.buildSl 3 1 [(.int .i64 0)] [(0,1,5)]),w 7 (.call (.k (.fn 137 [] [])) [4,6]),p 8 (.extr 0 7),p 9 (.extr 1 7),p 2 (.mov 8),p 3 (.mov 9)]) .ret))⟩
def real_Print_1_l0:MCode:=(.block 1 (.reg [p 19 (.mov 6),w 20 (.call (.k (.fn 91 [] [])) [4,19])]))
def real_Print_1_l1:MCode:=(.seq (.keep [4,7,8]) (.seq (.seq (.reg [p 24 (.mov 7),p 25 (.bin .gtr 24 (.k (.int .i64 0))),p 26 (.mov 25),pg 27 26 false (.mov 8),p 28 (.pick
 26 (.k (.bool true)) 27)]) (.cond 28 .skip (.exit 2))) (.seq (.block 3 (.seq (.reg [p 29 (.mov 7),p 30 (.bin .mul 29 (.k (.int .i64 10))),p 7 (.mov 30)]) (.seq (.reg [p 31 (.mov 7),
 p 32 (.bin .quo 31 (.k (.int .i64 65536))),p 33 (.conv .u8 32),p 34 (.bin .add (.k (.int .u8 48)) 33),w 35 (.call (.k (.fn 91 [] [])) [4,34])]) (.reg [p 36 (.mov 7),p 37 (.bin
 .rem 36 (.k (.int .i64 65536))),p 7 (.mov 37)])))) (.seq (.keep [4,7]) (.reg [p 8 (.mov (.k (.bool false)))])))))
def real_Print_1:MFun:=⟨1,[.t 1,.t 2,.t 3],(.seq (.reg [p 1 (.mov (.k (.str []))),p 2 (.mov (.k (.int .i64 0))),p 3 (.mov (.k (.int .i64 0)))]) (.seq (.reg [n 4 (.alloc 84
 false [.nilptr,.nilslice])]) (.seq (.reg [r 9 (.load none 0),p 5 (.mov 9)]) (.seq (.seq (.reg [p 10 (.mov 5),p 11 (.bin .lss 10 (.k (.int .i64 0)))]) (.cond 11 (.seq (.reg [w 12
 (.call (.k (.fn 91 [] [])) [4,(.k (.int .u8 45))])]) (.reg [p 13 (.mov 5),p 14 (.un .neg 13),p 5 (.mov 14)])) .skip)) (.seq (.seq (.reg [p 15 (.mov 5),p 16 (.bin .quo 15 (.k (.int
 .i64 65536))),w 17 (.call (.k (.fn 138 [] [])) [16])]) (.block 0 (.rangeFunc 17 [18] (.reg [p 6 (.mov 18)]) real_Print_1_l0))) (.seq (.keep [4,5]) (.seq (.reg [w 21 (.call (.k (.fn
 91 [] [])) [4,(.k (.int .u8 46))])]) (.seq (.seq (.reg [p 22 (.mov 5),p 23 (.bin .rem 22 (.k (.int .i64 65536))),p 7 (.mov 23),p 8 (.mov (.k (.bool true)))]) (.block 2 (.loop real_Print_1_l1)))
 (.seq (.keep [4]) (.seq (.reg [w 38 (.call (.k (.fn 92 [] [])) [4]),p 1 (.mov 38),p 2 (.mov (.k (.int .i64 0))),p 3 (.mov (.k (.int .i64 0)))]) .ret))))))))))⟩
def real_result_string_l0:MCode:=(.seq (.keep [0,4,10,11,12]) (.seq (.reg [p 13 (.bin .lss 12 11)]) (.seq (.cond 13 .skip (.exit 0)) (.seq (.block 1 (.seq (.reg [p 14 (.iaddrS
 1 10 12),r 15 (.load none 14),p 7 (.mov 15)]) (.seq (.reg [p 16 (.mov 7),w 17 (.call (.k (.fn 110 [] [])) [16]),p 18 (.un .not 17)]) (.cond 18 (.seq (.reg [p 19 (.mov 4),p 4 (.mov
 19),p 5 (.mov (.k (.int .i64 2)))]) .ret) .skip)))) (.seq (.keep [0,4,10,11,12]) (.reg [p 20 (.bin .add 12 (.k (.int .i64 1))),p 12 (.mov 20)]))))))
def real_result_string:MFun:=⟨2,[.t 4,.t 5],(.seq (.reg [p 4 (.mov (.k (.str []))),p 5 (.mov (.k (.int .i64 0)))]) (.seq (.seq (.reg [p 10 (.mov 1),p 11 (.lenOf false 10),
 p 12 (.mov (.k (.int .i64 0)))]) (.block 0 (.loop real_result_string_l0))) (.seq (.keep [0,4]) (.seq (.reg [p 22 (.mov 0),w 23 (.call 22 []),p 21 (.mov 23),p 24 (.extr 0 21),p
 25 (.extr 1 21),p 26 (.extr 2 21),p 8 (.mov 24),p 9 (.mov 25),p 5 (.mov 26)]) (.seq (.keep [4,5,8,9]) (.seq (.seq (.reg [p 27 (.mov 5),p 28 (.bin .eql 27 (.k (.int .i64 0))),
 p 29 (.mov 28),pg 30 29 true (.mov 9),wg 31 29 true (.call (.k (.fn 110 [] [])) [30]),pg 32 29 true (.un .not 31),p 33 (.pick 29 32 (.k (.bool false)))]) (.cond 33 (.reg [p 5 (.mov
 (.k (.int .i64 25)))]) .skip)) (.seq (.keep [4,5,8]) (.seq (.seq (.reg [p 34 (.mov 5),p 35 (.bin .neq 34 (.k (.int .i64 0)))]) (.cond 35 (.seq (.reg [p 36 (.mov 4),p 37 (.mov 5),
 p 4 (.mov 36),p 5 (.mov 37)]) .ret) .skip)) (.seq (.reg [p 38 (.mov 8),p 4 (.mov 38),p 5 (.mov (.k (.int .i64 0)))]) .ret)))))))))⟩
def real_whole:MFun:=⟨1,[.t 2],(.seq (.reg [n 1 (.box 3 false 0),p 2 (.mov (.k .nilfn))]) (.seq (.reg [p 3 (.mkfn 139 [] [1]),p 2 (.mov 3)]) .ret))⟩
def real_whole_1_l0:MCode:=(.seq (.keep [0,1,3]) (.seq (.seq (.reg [r 4 (.load none 1),p 5 (.mov 3),p 6 (.bin .quo 4 5),p 7 (.bin .geq 6 (.k (.int .i64 10)))]) (.cond 7 .skip
 (.exit 0))) (.block 1 (.reg [p 8 (.mov 3),p 9 (.bin .mul 8 (.k (.int .i64 10))),p 3 (.mov 9)]))))
def real_whole_1_l1:MCode:=(.seq (.keep [0,1,3]) (.seq (.seq (.reg [p 10 (.mov 3),p 11 (.bin .gtr 10 (.k (.int .i64 0)))]) (.cond 11 .skip (.exit 2))) (.seq (.block 3 (.seq (.reg
 [p 14 (.mov 0),r 15 (.load none 1),p 16 (.mov 3),p 17 (.bin .quo 15 16),p 18 (.bin .rem 17 (.k (.int .i64 10))),p 19 (.conv .u8 18),p 20 (.bin .add (.k (.int .u8 48)) 19),w 21
 (.call 14 [20]),p 22 (.un .not 21)]) (.cond 22 .ret .skip))) (.seq (.keep [0,1,3]) (.reg [p 12 (.mov 3),p 13 (.bin .quo 12 (.k (.int .i64 10))),p 3 (.mov 13)])))))
def real_whole_1:MFun:=⟨2,[],(.seq (.reg [p 3 (.mov (.k (.int .i64 1)))]) (.seq (.block 0 (.loop real_whole_1_l0)) (.seq (.keep [0,1,3]) (.block 2 (.loop real_whole_1_l1)))))⟩
structure H_strconv_Itoa (T:Tab):Prop where
 en:T.en 132=some E_strconv_Itoa
structure H_real_whole_1 (T:Tab):Prop where
 e:T.en 139=none
 f:T.fn 139=some real_whole_1
structure H_real_result_string (T:Tab):Prop where
 e:T.en 137=none
 f:T.fn 137=some real_result_string
 real_Is:H_real_Is T
structure H_real_whole (T:Tab):Prop where
 e:T.en 138=none
 f:T.fn 138=some real_whole
 real_whole_1:H_real_whole_1 T
structure H_real_Print_1 (T:Tab):Prop where
 e:T.en 136=none
 f:T.fn 136=some real_Print_1
 strings_Builder_WriteByte:H_strings_Builder_WriteByte T
 real_whole:H_real_whole T
 strings_Builder_String:H_strings_Builder_String T
structure H_real_Print (T:Tab):Prop where
 e:T.en 133=none
 f:T.fn 133=some real_Print
 real_Print_1:H_real_Print_1 T
 real_result_string:H_real_result_string T
structure H_lex_Text (T:Tab):Prop where
 e:T.en 128=none
 f:T.fn 128=some lex_Text
 lex_Check:H_lex_Check T
 strconv_Itoa:H_strconv_Itoa T
 real_Print:H_real_Print T
 lex_Quote:H_lex_Quote T
end Go.Ev.B

/- The reference's valid tokens. -/
namespace Go.Ev
open Go
variable {T : Tab} {st : St}
end Go.Ev

/- The reference's decimal text of an int. -/
namespace Go.Ev
open Go
variable {T : Tab} {st : St}
theorem hget_of_mem:∀{h:Heap} {n:Nat},n∈h.map (·.1)→∃o,hget h n=some o
 | [],_,hm=>by simp at hm
 | (m,o)::h,n,hm=>by
   by_cases e:m=n
   ·exact⟨o,by simp[hget,e]⟩
   ·simp only[List.map_cons,List.mem_cons]at hm
    rcases hm with h1 | h1
    ·exact absurd h1.symm e
    ·obtain⟨p,hp⟩:=hget_of_mem h1
     exact⟨p,by simp[hget,e,hp]⟩
theorem Ext.put (hwf:st.Wf) {k n:Nat} {s:St} (x:Ext ⟨st.h,st.nx+k⟩ s) (h1:st.nx≤n) (h2:n<st.nx+k) (o:AObj):Ext st ⟨(n,o)::s.h,s.nx⟩:=by
 have hno:hget s.h n=none:=by
  rw[x.keep n h2]
  cases hg:hget st.h n with
  | none=>rfl
  | some p=>have:=hwf.lt n p hg;omega
 have hnx:=x.nx
 refine⟨by simp only at hnx⊢;omega,⟨fun m p hm=> ?_,?_⟩,fun m hm=> ?_⟩
 ·simp only[hget]at hm
  split at hm
  ·rename_i e;subst e;simp only at hnx⊢;omega
  ·exact x.wf.lt m p hm
 ·simp only[List.map_cons,List.nodup_cons]
  refine⟨fun hm=> ?_,x.wf.nd⟩
  obtain⟨p,hp⟩:=hget_of_mem hm
  rw[hno]at hp;cases hp
 ·simp only[hget]
  rw[if_neg (by omega),x.keep m (by simp only;omega)]
theorem decDigits_small {u:Nat} (h:u<10):Lib.decDigits u=[UInt8.ofNat (48+u)]:=by rw[Lib.decDigits,dif_pos h]
theorem decDigits_big {u:Nat} (h:¬u<10):Lib.decDigits u=Lib.decDigits (u / 10)++[UInt8.ofNat (48+u % 10)]:=by rw[Lib.decDigits,dif_neg h]
theorem decDigits_len:∀(k u:Nat),u<10 ^ (k+1)→1≤(Lib.decDigits u).length∧(Lib.decDigits u).length≤k+1
 | 0,u,h=>by rw[decDigits_small (by simpa using h)];simp
 | k+1,u,h=>by
   by_cases h10:u<10
   ·rw[decDigits_small h10];simp
   ·have:=decDigits_len k (u / 10) (by rw[Nat.pow_succ]at h;omega)
    rw[decDigits_big h10,List.length_append,List.length_singleton]
    omega
theorem decDigits_len10 {u:Nat} (h:u≤4294967296):1≤(Lib.decDigits u).length∧(Lib.decDigits u).length≤10:=decDigits_len 9 u (by omega)
theorem digW {d:Nat} (h:d<10):IntKind.u8.wrap (48+(d:Int))=((UInt8.ofNat (48+d)).toNat:Int)∧IntKind.i64.wrap (48+(d:Int))=48+d:=by
 constructor
 ·have:d=0∨d=1∨d=2∨d=3∨d=4∨d=5∨d=6∨d=7∨d=8∨d=9:=by omega
  rcases this with rfl | rfl | rfl | rfl | rfl | rfl | rfl | rfl | rfl | rfl <;> rfl
 ·exact wrap64' (by omega) (by omega)
end Go.Ev

/- Reals as decimals: what both Prints answer; the reference's Print. -/
namespace Go.Ev
open Go
variable {T : Tab} {st : St}
def fracS:Nat→Nat→List UInt8
 | 0,_=>[]
 | k+1,f=>UInt8.ofNat (48+f*10 / 65536)::(if f*10 % 65536=0 then []else fracS k (f*10 % 65536))
def printS (n:Int):List UInt8:=(if n<0 then [45]else [])++(Lib.decDigits (n.natAbs / 65536)++(46::fracS 17 (n.natAbs % 65536)))
theorem fracS_len:∀k f,(fracS k f).length≤k
 | 0,_=>by simp[fracS]
 | k+1,f=>by
   have:=fracS_len k (f*10 % 65536)
   simp only[fracS,List.length_cons]
   split <;> simp <;> omega
theorem frac_dvd {k f:Nat} (hk:1≤k) (hk2:k≤16) (hd:2 ^ (17 - (k+1)) ∣ f):2 ^ (17 - k) ∣ f*10 % 65536:=by
 obtain⟨m,hm⟩:=hd
 have e1:(2:Nat) ^ (17 - k)=2 ^ (17 - (k+1))*2:=by rw[←Nat.pow_succ];congr 1;omega
 have h1:2 ^ (17 - k) ∣ f*10:=⟨m*5,by rw[e1,hm];rw[Nat.mul_assoc,Nat.mul_assoc,←Nat.mul_assoc 2 m 5,Nat.mul_comm 2 m,Nat.mul_assoc m 2 5]⟩
 have h2:2 ^ (17 - k) ∣ 65536:=⟨2 ^ (k - 1),by rw[←Nat.pow_add,show 17 - k+(k - 1)=16 by omega]⟩
 exact(Nat.dvd_mod_iff h2).2 h1
theorem frac_nums {f:Nat} (hf:f<65536):IntKind.i64.wrap ((f:Int)*10)=((f*10:Nat):Int)∧((f*10:Nat):Int).tdiv 65536=((f*10 / 65536:Nat):Int)∧((f*10:Nat):Int).tmod 65536=((f*10 % 65536:Nat):Int)∧
  IntKind.i64.wrap ((f*10 / 65536:Nat):Int)=((f*10 / 65536:Nat):Int)∧f*10 / 65536<10∧f*10 % 65536<65536:=by
 refine⟨by rw[wrap64' (by omega) (by omega)];omega,?_,?_,wrap64' (by omega) (by omega),by omega,by omega⟩
 ·rw[Int.tdiv_eq_ediv_of_nonneg (by omega)];omega
 ·rw[Int.tmod_eq_emod_of_nonneg (by omega)];omega
theorem printS_pos {u:Nat}:printS (u:Int)=Lib.decDigits (u / 65536)++(46::fracS 17 (u % 65536)):=by
 unfold printS;rw[if_neg (by omega)];simp
theorem printS_neg {u:Nat} (h:0<u):printS (-(u:Int))=45::(Lib.decDigits (u / 65536)++(46::fracS 17 (u % 65536))):=by
 unfold printS;rw[if_pos (by omega)];simp
theorem div65536 (u:Nat):(u:Int).tdiv 65536=((u / 65536:Nat):Int)∧(u:Int).tmod 65536=((u % 65536:Nat):Int):=by
 refine⟨?_,?_⟩
 ·rw[Int.tdiv_eq_ediv_of_nonneg (by omega)];omega
 ·rw[Int.tmod_eq_emod_of_nonneg (by omega)];omega
end Go.Ev

/- The canonical texts: the reference's Text. -/
namespace Go.Ev
open Go
variable {T : Tab} {st : St}
def textS (k n:Int) (t:List UInt8):List UInt8:=
 if k=1 then Lib.itoa n else if k=2 then printS n else if k=4 then 47::t else if k=5 then 47::47::t else if k=6 then quoteS t else if k=7 then [123]else if k=8 then [125]else t
theorem right_bound {k n:Int} {t:List UInt8} (h:rightT k n t=true):k=1∨k=2→-4294967296≤n∧n≤4294967296:=by
 rintro(rfl | rfl)
 ·simp[rightT]at h;omega
 ·simp[rightT]at h;omega
end Go.Ev

/- real.Print: the digits ahead of the point are yielded one by one. -/
namespace Go.Ev
open Go
variable {T : Tab} {st : St}
theorem writeByte_frm (H:B.H_strings_Builder_WriteByte T) {st0:St} (hx:Ext st0 st) {q:Nat} {l:List UInt8} (c:UInt8) {n:Int} (hn:n=(c.toNat:Int)) (b:Bd st0 st q l) (hl:l.length<35184372088831):
  CRes (call T (.fn 91 [] []) [.ptr q 0,.int .u8 n] st) fun _ s'=>(Ext st0 s'∧Bd st0 s' q (l++[c]))∧∀m o,m≠q→hget st.h m=some o→(∀ty,o≠.cells ty false (u8s l))→o≠.buf 5 1 (u8s l)→hget s'.h m=some o:=by
 subst hn
 obtain⟨h1,a,v,h2,h3,h4,h5⟩:=b
 refine call_res H.e H.f rfl ?_
 simp[B.strings_Builder_WriteByte,go_sem]
 refine(copyCheck_res H.strings_Builder_copyCheck hx.wf h2 h3).mono ?_
 rintro _ s1 ⟨f1,g1⟩
 have x1:Ext st0 s1:=hx.frm f1 (by simpa using h1)
 have g4:=h4.frm f1 hx.wf (by intro n hn h;simp at h;subst h;exact h5 hn)
 have hr:rdCell s1.h q 1=some v:=by simp[rdCell,g1]
 simp[go_sem,RO.run,NO.run,hr,reps]
 refine(g4.push x1.nx x1.wf (k:=1) (by omega) (c:=c) hl).mono ?_
 rintro v2 s2 ⟨o2,f2⟩
 have x2:=x1.frm f2 h4.ge
 have g2:hget s2.h q=some (.cells 84 false [.ptr q 0,v]):=f2.get x1.wf g1 h5
 have hw2:wrCells s2.h q 1 [v2]=some (hset s2.h q (.cells 84 false [.ptr q 0,v2])):=wr_cells g2 o2.sc (by simp)
 have f3:=Frm.set x2.wf g2 (o:= .cells 84 false [.ptr q 0,v2])
 have hap:=o2.apart g2 (x:= .ptr q 0) (by simp) (by simp)
 have g3:=hget_hset_self (o:= .cells 84 false [.ptr q 0,v2]) g2
 simp[go_sem,WO.run,o2.acells,hw2]
 have x3:Ext st0 ⟨hset s2.h q (.cells 84 false [.ptr q 0,v2]),s2.nx⟩:=x2.frm f3 (by simpa using h1)
 have o3:Grow st0 ⟨hset s2.h q (.cells 84 false [.ptr q 0,v2]),s2.nx⟩ v2 (l++[c]):=o2.frm f3 x2.wf (by intro n hn h;simp at h;subst h;exact hap hn)
 have x4:Ext st0 ⟨Go.Ev.dropLoc st.nx (hset s2.h q (.cells 84 false [.ptr q 0,v2])),s2.nx⟩:=x3.dropGe hx.nx
 refine⟨⟨x4,h1,_,v2,hget_dropLoc_keep x3.wf g3 rfl,.inr rfl,o3.dropLoc x3.wf,hap⟩,?_⟩
 intro m o hmq ho hc hb
 have hm:m∉v.nms:=by
  intro hm
  rcases h4.nms hm with ⟨ty,k⟩ | k
  ·rw[ho]at k;cases k;exact hc ty rfl
  ·rw[ho]at k;cases k;exact hb rfl
 have k1:=f1.get hx.wf ho (by simpa using hmq)
 have k2:=f2.get x1.wf k1 hm
 have k3:=f3.get (st:=⟨_,_⟩) x2.wf k2 (by simpa using hmq)
 show hget (Go.Ev.dropLoc st.nx _) m=_
 rw[hget_dropLoc_lt (hx.wf.lt m o ho)]
 exact k3
theorem whole_call (H:B.H_real_whole T) (hwf:st.Wf) {n:Int} {Q:AV→St→Prop}
  (h:Q (.fn 139 [] [.ptr st.nx 0]) ⟨(st.nx,.cells 3 false [.int .i64 n])::st.h,st.nx+1⟩):
  CRes (call T (.fn 138 [] []) [.int .i64 n] st) Q:=by
 refine call_res H.e H.f rfl ?_
 have hd:dropLoc st.nx ((st.nx,AObj.cells 3 false [.int .i64 n])::st.h)=(st.nx,AObj.cells 3 false [.int .i64 n])::st.h:=by
  have:locNames st.nx ((st.nx,AObj.cells 3 false [.int .i64 n])::st.h)=[]:=by
   simp only[locNames]
   exact locNames_nil fun n o ho=>hwf.lt n o ho
  rw[dropLoc_eq,this,hdrop_nil]
 simp[B.real_whole,go_sem,NO.run,AV.nb,hd]
 exact h
def digsF (n:Nat):Nat→List UInt8
 | 0=>[UInt8.ofNat (48+n % 10)]
 | k+1=>UInt8.ofNat (48+n / 10 ^ (k+1) % 10)::digsF n k
theorem digsF_last (n:Nat):∀k,digsF n (k+1)=digsF (n / 10) k++[UInt8.ofNat (48+n % 10)]
 | 0=>by simp[digsF]
 | k+1=>by
   have:=digsF_last n k
   rw[digsF,this,digsF,Nat.div_div_eq_div_mul,←Nat.pow_succ']
   rfl
theorem digsF_dec:∀(k n:Nat),n<10 ^ (k+1)→(k=0∨10 ^ k≤n)→digsF n k=Lib.decDigits n
 | 0,n,h,_=>by rw[decDigits_small (by simpa using h),digsF,Nat.mod_eq_of_lt (by simpa using h)]
 | k+1,n,h,hk=>by
   have h1:10 ^ (k+1)≤n:=by rcases hk with hk | hk;cases hk;exact hk
   have h2:1≤10 ^ k:=Nat.pow_pos (by omega)
   rw[Nat.pow_succ]at h h1
   rw[digsF_last,decDigits_big (by omega),digsF_dec k (n / 10) (by rw[Nat.pow_succ]at h⊢;omega) (.inr (by omega))]
theorem whole_l0 {n m:Nat} (hn:n≤65536) (hg:hget st.h m=some (.cells 3 false [.int .i64 (n:Int)])) {y:AV}:∀(f j:Nat) (e:Env),j+f=5→(j=0∨10 ^ j≤n)→eget e 0=y→eget e 1= .ptr m 0→eget e 3= .int .i64 ((10 ^ j:Nat):Int)→
  Res (run T (.loop B.real_whole_1_l0) e st) fun x e' s'=>x= .exit 0∧s'=st∧eget e' 0=y∧eget e' 1= .ptr m 0∧∃k,k≤5∧eget e' 3= .int .i64 ((10 ^ k:Nat):Int)∧n<10 ^ (k+1)∧(k=0∨10 ^ k≤n):=by
 intro f
 induction f with
 | zero=>
   intro j e hj hjn g0 g1 g3
   have hj5:j=5:=by omega
   subst hj5
   exfalso
   omega
 | succ f ih=>
   intro j e hj hjn g0 g1 g3
   rw[run_loop]
   have hp:10 ^ (j+1)=10 ^ j*10:=Nat.pow_succ ..
   have hp1:1≤10 ^ j:=Nat.pow_pos (by omega)
   have hp2:10 ^ j≤10 ^ 4:=Nat.pow_le_pow_right (by omega) (by omega)
   have hnext:=ih (j+1)
   have hthis:∀k,k=j→(k=0∨10 ^ k≤n):=fun k h=>h▸hjn
   rw[hp]at hnext
   have hend:n<10 ^ j*10→∃k,k≤5∧10 ^ k=10 ^ j∧n<10 ^ (k+1)∧(k=0∨10 ^ k≤n):=fun h=>⟨j,by omega,rfl,by rw[hp];exact h,hjn⟩
   generalize 10 ^ j=p at*
   have hq:(n:Int).tdiv (p:Int)=((n / p:Nat):Int):=(Int.ofNat_tdiv n p).symm
   have hle:n / p≤n:=Nat.div_le_self n p
   have hd:10≤n / p↔p*10≤n:=by rw[Nat.le_div_iff_mul_le hp1,Nat.mul_comm]
   have hp0:¬(p:Int)=0:=by omega
   have hp0':¬p=0:=by omega
   have wp:IntKind.i64.wrap ((p:Int)*10)=((p*10:Nat):Int):=by rw[wrap64' (by omega) (by omega)];omega
   generalize n / p=q at*
   have wq:IntKind.i64.wrap (q:Int)=(q:Int):=wrap64' (by omega) (by omega)
   by_cases hc:10≤q
   ·have hc':(10:Int)≤q:=by omega
    simp[B.real_whole_1_l0,go_sem,g0,g1,g3,RO.run,rd_one hg,hq,wq,hp0,hp0',hc,hc',wp]
    exact hnext _ (by omega) (.inr (hd.1 hc)) (by simp[go_sem]) (by simp[go_sem]) (by simp[go_sem,wp])
   ·have hc':¬(10:Int)≤q:=by omega
    simp[B.real_whole_1_l0,go_sem,g0,g1,g3,RO.run,rd_one hg,hq,wq,hp0,hp0',hc,hc']
    obtain⟨k,k1,k2,k3,k4⟩:=hend (by omega)
    exact⟨k,k1,by rw[←k2];rfl,k3,k4⟩
theorem whole_l1 {n m:Nat} (hn:n≤65536) {Y:AV} (P:List UInt8→St→Prop) (hg:∀l s,P l s→hget s.h m=some (.cells 3 false [.int .i64 (n:Int)]))
  (hY:∀l s (c:UInt8),P l s→l.length≤10→CRes (call T Y [.int .u8 (c.toNat:Int)] s) fun v s2=>v= .bool true∧P (l++[c]) s2):∀(k:Nat) (l:List UInt8) (e:Env) (st1:St),k≤5→l.length+k≤10→P l st1→eget e 0=Y→eget e 1= .ptr m 0→eget e 3= .int .i64 ((10 ^ k:Nat):Int)→
  Res (run T (.loop B.real_whole_1_l1) e st1) fun x e' s'=>x= .exit 2∧P (l++digsF n k) s':=by
 have step:∀(p:Nat) (l:List UInt8) (e:Env) (st1:St) (Q:Ex→Env→St→Prop),1≤p→p≤100000→l.length≤10→P l st1→eget e 0=Y→eget e 1= .ptr m 0→eget e 3= .int .i64 (p:Int)→
   (∀e' s',P (l++[UInt8.ofNat (48+n / p % 10)]) s'→eget e' 0=Y→eget e' 1= .ptr m 0→eget e' 3= .int .i64 ((p / 10:Nat):Int)→Res (run T (.loop B.real_whole_1_l1) e' s') Q)→
   Res (run T (.loop B.real_whole_1_l1) e st1) Q:=by
  intro p l e st1 Q hp1 hp2 hl hP g0 g1 g3 hfin
  rw[run_loop]
  have hq:(n:Int).tdiv (p:Int)=((n / p:Nat):Int):=(Int.ofNat_tdiv n p).symm
  have hle:n / p≤n:=Nat.div_le_self n p
  have hp0:¬(p:Int)=0:=by omega
  have hp0':¬p=0:=by omega
  have hpp:(0:Int)<p:=by omega
  have hpp':0<p:=by omega
  generalize n / p=q at*
  have wq:IntKind.i64.wrap (q:Int)=(q:Int):=wrap64' (by omega) (by omega)
  obtain⟨hr,_⟩:=div10 q
  obtain⟨_,hs⟩:=div10 p
  have wr:IntKind.u8.wrap ((q % 10:Nat):Int)=((q % 10:Nat):Int):=by
   have:q % 10<10:=Nat.mod_lt _ (by omega)
   generalize q % 10=r at*
   have:r=0∨r=1∨r=2∨r=3∨r=4∨r=5∨r=6∨r=7∨r=8∨r=9:=by omega
   rcases this with rfl | rfl | rfl | rfl | rfl | rfl | rfl | rfl | rfl | rfl <;> rfl
  have ws:IntKind.i64.wrap ((p / 10:Nat):Int)=((p / 10:Nat):Int):=wrap64' (by omega) (by omega)
  obtain⟨w1,_⟩:=digW (Nat.mod_lt q (show 0<10 by omega))
  generalize q % 10=r at*
  generalize p / 10=p2 at*
  generalize UInt8.ofNat (48+r)=c at*
  simp[B.real_whole_1_l1,go_sem,g0,g1,g3,RO.run,rd_one (hg _ _ hP),hq,wq,hp0,hp0',hpp,hpp',hr,wr,w1]
  refine(hY l st1 c hP hl).mono ?_
  rintro v s2 ⟨rfl,hP2⟩
  simp[go_sem,g0,g1,g3,hs,ws]
  exact hfin _ _ hP2 (by simp[go_sem]) (by simp[go_sem]) (by simp[go_sem,hs,ws])
 intro k
 induction k with
 | zero=>
   intro l e st1 _ hl hP g0 g1 g3
   refine step 1 l e st1 _ (by omega) (by omega) (by omega) hP g0 g1 (by simpa using g3) ?_
   intro e' s' hP' k0 k1 k3
   rw[run_loop]
   simp[B.real_whole_1_l1,go_sem,k0,k1,k3]
   rw[Nat.div_one]at hP'
   exact hP'
 | succ k ih=>
   intro l e st1 hk hl hP g0 g1 g3
   have hp1:1≤10 ^ (k+1):=Nat.pow_pos (by omega)
   have hp2:10 ^ (k+1)≤10 ^ 5:=Nat.pow_le_pow_right (by omega) (by omega)
   refine step (10 ^ (k+1)) l e st1 _ hp1 (by omega) (by omega) hP g0 g1 g3 ?_
   intro e' s' hP' k0 k1 k3
   have hp3:10 ^ (k+1) / 10=10 ^ k:=by rw[Nat.pow_succ];omega
   rw[hp3]at k3
   have:=ih (l++[UInt8.ofNat (48+n / 10 ^ (k+1) % 10)]) e' s' (by omega) (by simp;omega) hP' k0 k1 k3
   rw[List.append_assoc]at this
   exact this
theorem whole_yields (H:B.H_real_whole_1 T) {n m:Nat} (hn:n≤65536) {Y:AV} (P:List UInt8→St→Prop) (hg:∀l s,P l s→hget s.h m=some (.cells 3 false [.int .i64 (n:Int)]))
  (hY:∀l s (c:UInt8),P l s→l.length≤10→CRes (call T Y [.int .u8 (c.toNat:Int)] s) fun v s2=>v= .bool true∧P (l++[c]) s2) (hP:P [] st) {Q:St→Prop} (hQ:∀s,P (Lib.decDigits n) s→Q ⟨dropLoc st.nx s.h,s.nx⟩):
  CRes (call T (.fn 139 [] [.ptr m 0]) [Y] st) fun _ s=>Q s:=by
 refine call_any H.e H.f rfl rfl ?_
 simp[B.real_whole_1,go_sem]
 refine(whole_l0 hn (hg _ _ hP) (y:=Y) 5 0 _ rfl (.inl rfl) (by simp[go_sem]) (by simp[go_sem]) (by simp[go_sem])).mono ?_
 rintro x e s ⟨rfl,rfl,k0,k1,k,hk,k3,k4,k5⟩
 simp[go_sem,k0,k1,k3]
 refine(whole_l1 hn P hg hY k [] _ _ hk (by simp;omega) hP (by simp[go_sem]) (by simp[go_sem]) (by simp[go_sem])).mono ?_
 rintro x e s ⟨rfl,hP2⟩
 rw[digsF_dec k n k4 k5]at hP2
 simp[go_sem]
 exact hQ s (by simpa using hP2)
end Go.Ev

/- real.Print told. -/
namespace Go.Ev
open Go
variable {T : Tab} {st : St}
def pb:Nat→MCode
 | 0=>B.real_Print_1.body
 | k+1=>(pb k).b
theorem Bd.frm1 {st0 s s':St} {q m:Nat} {l:List UInt8} {o:AObj} (b:Bd st0 s q l) (f:Frm [m] s s') (hw:s.Wf) (hm:hget s.h m=some o) (h1:∀ty l cs,o≠.cells ty l cs) (h2:∀ty es cs,o≠.buf ty es cs):Bd st0 s' q l:=by
 obtain⟨k1,a,v,k2,k3,k4,k5⟩:=b
 have hq:q≠m:=by rintro rfl;rw[hm]at k2;cases k2;exact h1 _ _ _ rfl
 have hv:∀n∈v.nms,n∉[m]:=by
  intro n hn hnm
  simp at hnm
  subst hnm
  rcases k4.nms hn with ⟨ty,h⟩ | h
  ·rw[hm]at h;cases h;exact h1 _ _ _ rfl
  ·rw[hm]at h;cases h;exact h2 _ _ _ rfl
 exact⟨k1,a,v,f.get hw k2 (by simpa using hq),k3,k4.frm f hw hv,k5⟩
theorem print1_frac (H:B.H_real_Print_1 T) (st0:St):∀(k f:Nat) (first:Bool) (l:List UInt8) (q:Nat) (e:Env) (st1:St),k+1≤17→f<65536→2 ^ (17 - (k+1)) ∣ f→(first=true∨0<f)→(first=true→k=16)→l.length+k≤1000→Ext st0 st1→Bd st0 st1 q l→eget e 4= .ptr q 0→eget e 7= .int .i64 (f:Int)→eget e 8= .bool first→
  Res (run T (.loop B.real_Print_1_l1) e st1) fun x e' s'=>x= .exit 2∧Ext st0 s'∧Bd st0 s' q (l++fracS (k+1) f)∧eget e' 4= .ptr q 0:=by
 intro k
 induction k with
 | zero=>
   intro f first l q e st1 hi hf hd hgo hk hl hx b g4 g7 g8
   obtain⟨m,hm⟩:=hd
   have hf0:f=0:=by
    rw[show (2:Nat) ^ (17 - (0+1))=65536 from rfl]at hm;omega
   exfalso
   rcases hgo with h | h
   ·have:=hk h;omega
   ·omega
 | succ k ih=>
   intro f first l q e st1 hi hf hd hgo hk hl hx b g4 g7 g8
   obtain⟨a1,a2,a3,a4,a5,a6⟩:=frac_nums hf
   obtain⟨w1,w2⟩:=digW a5
   have hdv:=frac_dvd (k:=k+1) (by omega) (by omega) hd
   have hfr:fracS (k+1+1) f=UInt8.ofNat (48+f*10 / 65536)::(if f*10 % 65536=0 then []else fracS (k+1) (f*10 % 65536)):=rfl
   rw[hfr]
   generalize f*10 / 65536=d at*
   generalize f*10 % 65536=r at*
   generalize f*10=t at*
   have wd:IntKind.u8.wrap (d:Int)=(d:Int):=by
    have:d=0∨d=1∨d=2∨d=3∨d=4∨d=5∨d=6∨d=7∨d=8∨d=9:=by omega
    rcases this with rfl | rfl | rfl | rfl | rfl | rfl | rfl | rfl | rfl | rfl <;> rfl
   generalize UInt8.ofNat (48+d)=c at*
   obtain⟨OUT,hO⟩:∃OUT,OUT=l++c::(if r=0 then []else fracS (k+1) r):=⟨_,rfl⟩
   rw[←hO]
   have fin:∀e' s',Ext st0 s'→Bd st0 s' q (l++[c])→eget e' 4= .ptr q 0→eget e' 7= .int .i64 (r:Int)→eget e' 8= .bool false→
     Res (run T (.loop B.real_Print_1_l1) e' s') fun x e' s'=>x= .exit 2∧Ext st0 s'∧Bd st0 s' q OUT∧eget e' 4= .ptr q 0:=by
    intro e' s' hx' b' k4 k7 k8
    by_cases hr:r=0
    ·subst hr
     have hO':OUT=l++[c]:=by rw[hO];simp
     rw[run_loop]
     simp[B.real_Print_1_l1,go_sem,k4,k7,k8,hx',hO',b']
    ·have hO':OUT=(l++[c])++fracS (k+1) r:=by rw[hO,if_neg hr];simp
     rw[hO']
     exact ih r false (l++[c]) q e' s' (by omega) a6 hdv (.inr (by omega)) (by simp) (by simp;omega) hx' b' k4 k7 k8
   rw[run_loop]
   by_cases hf0:0<f
   ·have hf0':(0:Int)<f:=by omega
    simp[B.real_Print_1_l1,go_sem,g4,g7,g8,a1,a2,a3,a4,hf0,hf0',wd,w1]
    refine(writeByte_at H.strings_Builder_WriteByte hx c rfl b (by omega)).mono ?_
    rintro _ s1 ⟨x1,b1⟩
    simp[go_sem,a3]
    exact fin _ _ x1 b1 (by simp[go_sem]) (by simp[go_sem,a3]) (by simp[go_sem])
   ·have hf1:first=true:=by rcases hgo with h | h;exact h;exact absurd h hf0
    subst hf1
    have hf0':¬(0:Int)<f:=by omega
    simp[B.real_Print_1_l1,go_sem,g4,g7,g8,a1,a2,a3,a4,hf0,hf0',wd,w1]
    refine(writeByte_at H.strings_Builder_WriteByte hx c rfl b (by omega)).mono ?_
    rintro _ s1 ⟨x1,b1⟩
    simp[go_sem,a3]
    exact fin _ _ x1 b1 (by simp[go_sem]) (by simp[go_sem,a3]) (by simp[go_sem])
theorem Bd.dropLoc {st0 s:St} {q c:Nat} {l:List UInt8} (b:Bd st0 s q l) (hw:s.Wf):Bd st0 ⟨Go.Ev.dropLoc c s.h,s.nx⟩ q l:=by
 obtain⟨k1,a,v,k2,k3,k4,k5⟩:=b
 exact⟨k1,a,v,hget_dropLoc_keep hw k2 rfl,k3,k4.dropLoc hw,k5⟩
theorem box_not (n:Int) (l:List UInt8):[AV.int .i64 n]≠u8s l:=by
 cases l with
 | nil=>simp[u8s]
 | cons c l=>simp[u8s]
theorem print1_tail (H:B.H_real_Print_1 T) (st0:St) {q u:Nat} {pre:List UInt8} {e:Env} {s1:St} (hu:u≤4294967296) (hpre:pre.length≤1) (hx:Ext st0 s1) (b:Bd st0 s1 q pre) (g4:eget e 4= .ptr q 0) (g5:eget e 5= .int .i64 (u:Int)):
  Res (run T (pb 4) e s1) fun x e' s'=>x= .ret∧Ext st0 s'∧eget e' 1= .str (pre++(Lib.decDigits (u / 65536)++(46::fracS 17 (u % 65536))))∧eget e' 2= .int .i64 0∧eget e' 3= .int .i64 0:=by
 obtain⟨a1,a2⟩:=div65536 u
 have hq:u / 65536≤65536:=by omega
 have hr:u % 65536<65536:=by omega
 have wq:IntKind.i64.wrap ((u / 65536:Nat):Int)=((u / 65536:Nat):Int):=wrap64' (by omega) (by omega)
 generalize u / 65536=n at*
 generalize u % 65536=r at*
 simp only[pb,B.real_Print_1,ab_seq]
 simp[go_sem,g5,a1,wq]
 refine whole_call H.real_whole hx.wf ?_
 simp[go_sem]
 refine res_rangeFunc ?_
 simp[go_sem]
 have hqlt:q<s1.nx:=by
  obtain⟨_,_,_,k2,_⟩:=b
  exact hx.wf.lt _ _ k2
 have hd:=decDigits_len10 (u:=n) (by omega)
 have xa:=Ext.new hx.wf (.cells 3 false [.int .i64 (n:Int)])
 generalize hE:((17,AV.fn 139 [] [.ptr s1.nx 0])::(16,AV.int .i64 (n:Int))::(15,AV.int .i64 (u:Int))::e:Env)=E
 have q4:eget E 4= .ptr q 0:=by rw[←hE];simp[go_sem,g4]
 clear hE
 obtain⟨W,hW⟩:∃W,W=B.real_Print_1_l0:=⟨_,rfl⟩
 rw[←hW]
 generalize hO:(fun st=>AObj.loop st E [18] (MCode.reg [{dst:=some 6,guard:=none,op:=MO.p (PO.mov (AO.t 18))}]) W)=O
 have hOr:AObj.loop .ready E [18] (MCode.reg [{dst:=some 6,guard:=none,op:=MO.p (PO.mov (AO.t 18))}]) W=O .ready:=by rw[←hO]
 have hOb:AObj.loop .busy E [18] (MCode.reg [{dst:=some 6,guard:=none,op:=MO.p (PO.mov (AO.t 18))}]) W=O .busy:=by rw[←hO]
 have on1:∀z ty l cs,O z≠.cells ty l cs:=fun z ty l cs=>by rw[←hO];simp
 have on2:∀z ty es cs,O z≠.buf ty es cs:=fun z ty es cs=>by rw[←hO];simp
 have hOe:∀z,O z=AObj.loop z E [18] (MCode.reg [{dst:=some 6,guard:=none,op:=MO.p (PO.mov (AO.t 18))}]) W:=fun z=>by rw[←hO]
 rw[hOr]
 have xb:=xa.trans (Ext.new xa.wf (O .ready))
 simp only[Nat.add_assoc,Nat.reduceAdd]at xb⊢
 clear hO
 refine(whole_yields H.real_whole.real_whole_1 (n:=n) (m:=s1.nx) hq
  (fun l s=>Ext st0 s∧Bd st0 s q (pre++l)∧hget s.h (s1.nx+1)=some (O .ready)∧hget s.h s1.nx=some (.cells 3 false [.int .i64 (n:Int)])) (fun l s h=>h.2.2.2) ?_
  ⟨hx.trans xb,by simpa using b.ext xb hx.wf,by simp[hget_cons],by simp[hget_cons]⟩ (Q:=fun s=>Ext st0 s∧Bd st0 s q (pre++Lib.decDigits n)∧hget s.h (s1.nx+1)=some (O .ready)) ?_).mono ?_
 ·rintro l s c ⟨k1,k2,k3,k4⟩ hl
  rw[hOe]at k3
  refine cres_yield k3 rfl ?_
  simp[go_sem,k3]
  rw[hOr]at k3
  rw[hOb]
  have y1:Ext st0 ⟨hset s.h (s1.nx+1) (O .busy),s.nx⟩:=k1.setNew k3 (by have:=hx.nx;omega)
  have y2:=k2.frm1 (Frm.set k1.wf k3 (o:=O .busy)) k1.wf k3 (on1 _) (on2 _)
  have y3:=hget_hset_self (o:=O .busy) k3
  have y4:=(hget_hset_ne (m:=s1.nx) (o:=O .busy) k3 (by omega)).trans k4
  refine Res.mono (Q:=fun x _ s2=>x= .norm∧Ext st0 s2∧Bd st0 s2 q (pre++l++[c])∧hget s2.h (s1.nx+1)=some (O .busy)∧hget s2.h s1.nx=some (.cells 3 false [.int .i64 (n:Int)])) ?_ ?_
  ·rw[hW]
   simp[B.real_Print_1_l0,go_sem,q4]
   refine(writeByte_frm H.strings_Builder_WriteByte y1 c rfl y2 (by simp;omega)).mono ?_
   rintro _ s2 ⟨⟨z1,z2⟩,z3⟩
   have w1:=z3 (s1.nx+1) (O .busy) (by omega) y3 (fun ty=>on1 _ _ _ _) (on2 _ _ _ _)
   have w2:=z3 s1.nx _ (by omega) y4 (fun ty h=>by injection h with _ _ h;exact box_not _ _ h) (by simp)
   simp[go_sem,z1,w1,w2]
   simpa using z2
  ·rintro _ _ s2 ⟨rfl,z1,z2,w1,w2⟩
   refine⟨by rw[hOb];exact w1,?_⟩
   show AV.bool true= .bool true∧_
   rw[hOr]
   refine⟨rfl,z1.setNew w1 (by have:=hx.nx;omega),?_,hget_hset_self w1,(hget_hset_ne w1 (by omega)).trans w2⟩
   rw[←List.append_assoc]
   exact z2.frm1 (Frm.set z1.wf w1 (o:=O .ready)) z1.wf w1 (on1 _) (on2 _)
 ·rintro s ⟨k1,k2,k3,k4⟩
  exact⟨k1.dropGe (by have:=hx.nx;simp only;omega),k2.dropLoc k1.wf,by rw[hget_dropLoc_lt (by simp only;omega)];exact k3⟩
 ·rintro _ s ⟨k1,k2,k3⟩
  refine .inl ⟨k3,?_⟩
  have f:=Frm.hdel (st:=s) k1.wf (s1.nx+1)
  have y1:Ext st0 ⟨hdel s.h (s1.nx+1),s.nx⟩:=k1.frm f (by have:=hx.nx;simp;omega)
  have y2:=k2.frm1 f k1.wf k3 (on1 _) (on2 _)
  rw[g4]
  refine(writeByte_at H.strings_Builder_WriteByte y1 46 rfl y2 (by simp;omega)).mono ?_
  rintro _ s2 ⟨x2,b2⟩
  simp[go_sem,g5,a2]
  refine(print1_frac H st0 16 r true _ q _ s2 (by omega) hr (by simp) (.inl rfl) (fun _=>rfl) (by simp;omega) x2 b2 (by simp[go_sem]) (by simp[go_sem]) (by simp[go_sem])).mono ?_
  rintro x e' s3 ⟨rfl,x3,b3,g4'⟩
  have:=fracS_len 17 r
  simp[go_sem,g4']
  refine(string_res H.strings_Builder_String x3 b3 (by simp;omega) (by simp;omega)).mono ?_
  rintro v s4 ⟨rfl,x4⟩
  simp[go_sem]
  exact x4
theorem print1_tells (H:B.H_real_Print_1 T) (hwf:st.Wf) {p:Nat} {n:Int} (hp:hget st.h p=some (.cells 3 true [.int .i64 n])) (h0: -4294967296≤n) (h1:n≤4294967296):Tells T st (.fn 136 [] [.ptr p 0]) [] (.tuple [.str (printS n),.int .i64 0,.int .i64 0]):=by
 refine tells_of H.e H.f rfl ?_
 have hx:=Ext.new hwf (.cells 84 false [.nilptr,.nilslice])
 have hb:Bd st ⟨(st.nx,.cells 84 false [.nilptr,.nilslice])::st.h,st.nx+1⟩ st.nx []:=⟨Nat.le_refl _,.nilptr,.nilslice,by simp[hget_cons],.inl rfl,.nil _ _,by simp[AV.nms]⟩
 have hp0:=hx.get hwf hp
 refine cut (c:=pb 0) rfl (by intro l;simp[pb,B.real_Print_1,ab_seq]) (fun x e' s'=>x= .norm∧s'=st∧eget e' 0= .ptr p 0) ?_ ?_
 ·simp only[pb,B.real_Print_1,ab_seq]
  simp[go_sem]
 rintro _ e1 s1 ⟨rfl,hst,g0⟩
 rw[kSeq_norm,hst]
 clear hst
 refine cut (c:=pb 1) rfl (by intro l;simp[pb,B.real_Print_1,ab_seq]) (fun x e' s'=>x= .norm∧s'=⟨(st.nx,.cells 84 false [.nilptr,.nilslice])::st.h,st.nx+1⟩∧eget e' 0= .ptr p 0∧eget e' 4= .ptr st.nx 0) ?_ ?_
 ·simp only[pb,B.real_Print_1,ab_seq]
  simp[go_sem,NO.run,g0]
 rintro _ e2 s2 ⟨rfl,hst,g0,g4⟩
 rw[kSeq_norm,hst]
 clear hst
 have hp1:rdCell (⟨(st.nx,.cells 84 false [.nilptr,.nilslice])::st.h,st.nx+1⟩:St).h p 0=some (.int .i64 n):=rd_one hp0
 generalize hS:(⟨(st.nx,.cells 84 false [.nilptr,.nilslice])::st.h,st.nx+1⟩:St)=sA at hx hb hp1⊢
 clear hS
 refine cut (c:=pb 2) rfl (by intro l;simp[pb,B.real_Print_1,ab_seq]) (fun x e' s'=>x= .norm∧s'=sA∧eget e' 4= .ptr st.nx 0∧eget e' 5= .int .i64 n) ?_ ?_
 ·simp only[pb,B.real_Print_1,ab_seq]
  simp[go_sem,RO.run,g0,g4,hp1]
 rintro _ e3 s3 ⟨rfl,hst,g4,g5⟩
 rw[kSeq_norm,hst]
 clear hst
 refine cut (c:=pb 3) rfl (by intro l;simp[pb,B.real_Print_1,ab_seq]) (fun x e' s'=>x= .norm∧eget e' 4= .ptr st.nx 0∧∃(u:Nat) (pre:List UInt8),eget e' 5= .int .i64 (u:Int)∧u≤4294967296∧pre.length≤1∧Ext st s'∧Bd st s' st.nx pre∧printS n=pre++(Lib.decDigits (u / 65536)++(46::fracS 17 (u % 65536)))) ?_ ?_
 ·simp only[pb,B.real_Print_1,ab_seq]
  by_cases hn:n<0
  ·obtain⟨u,hu⟩:∃u:Nat,n= -(u:Int):=⟨n.natAbs,by omega⟩
   have e1:IntKind.i64.wrap (-n)=u:=by rw[wrap64' (by omega) (by omega)];omega
   simp[go_sem,g4,g5,hn]
   refine(writeByte_at H.strings_Builder_WriteByte hx 45 rfl hb (by simp)).mono ?_
   rintro _ s1 ⟨x1,b1⟩
   simp[go_sem,g4,g5,e1]
   exact⟨u,rfl,by omega,[45],by simp,x1,by simpa using b1,by rw[hu,printS_neg (by omega)];rfl⟩
  ·obtain⟨u,rfl⟩:=Int.eq_ofNat_of_zero_le (show 0≤n by omega)
   simp[go_sem,g4,g5,hn]
   exact⟨u,rfl,by omega,[],by simp,hx,hb,by rw[printS_pos];rfl⟩
 rintro _ e4 s4 ⟨rfl,g4,u,pre,g5,hu,hpre,x4,b4,hpr⟩
 rw[kSeq_norm,hpr]
 refine(print1_tail H st (q:=st.nx) hu hpre x4 b4 g4 g5).mono ?_
 rintro _ e5 s5 ⟨rfl,x5,k1,k2,k3⟩
 refine⟨.inr rfl,?_⟩
 simp[B.real_Print_1,fresults,resVals,resVal,RO.run,k1,k2,k3,x5]
theorem realPrint_tells (H:B.H_real_Print T) (hwf:st.Wf) {n:Int} (h0: -2147483648≤n) (h1:n≤2147483648):Tells T st (.fn 133 [] []) [.int .i64 n] (.tuple [.str (printS n),.int .i64 0]):=by
 refine tells_of H.e H.f rfl ?_
 have hx:=Ext.new hwf (.cells 3 true [.int .i64 n])
 have hx2:=hx.trans (Ext.new hx.wf (.cells 3 false [.int .i64 n]))
 simp only[Nat.add_assoc,Nat.reduceAdd]at hx2
 have hr:Tells T ⟨(st.nx+1,.cells 3 false [.int .i64 n])::(st.nx,.cells 3 true [.int .i64 n])::st.h,st.nx+2⟩ (.fn 137 [] []) [.fn 136 [] [.ptr st.nx 0],.slice (st.nx+1) 0 1 (.known 1)] (.tuple [.str (printS n),.int .i64 0]):=by
  refine tells_of H.real_result_string.e H.real_result_string.f rfl ?_
  simp[B.real_result_string,go_sem]
  rw[run_loop]
  simp[B.real_result_string_l0,go_sem,RO.run,rdCell,hget_cons]
  refine(is110_tells H.real_result_string.real_Is hx2.wf).use fun s1 x1=> ?_
  simp[go_sem,h0,h1]
  rw[run_loop,show IntKind.i64.wrap 1=1 from rfl]
  simp[B.real_result_string_l0,go_sem]
  have hp:hget s1.h st.nx=some (.cells 3 true [.int .i64 n]):=x1.get hx2.wf (by simp[hget_cons])
  refine(print1_tells H.real_Print_1 x1.wf hp (by omega) (by omega)).use fun s2 x2=> ?_
  simp[go_sem]
  refine(is110_tells H.real_result_string.real_Is x2.wf).use fun s3 x3=> ?_
  simp[go_sem]
  exact(x1.trans x2).trans x3
 simp[B.real_Print,go_sem,NO.run,RO.run,rdCell,hget_cons,Nat.add_assoc]
 refine hr.use fun s1 x1=> ?_
 simp[go_sem]
 exact hx2.trans x1
end Go.Ev

/- lex.Text; the token of a draft. -/
namespace Go.Ev
open Go
variable {T : Tab} {st : St}
def Pow (st:St):Prop:=∃m cs,hget st.h m=some (.glob B.gPow10 cs)∧cs.map B.av64=Lib.pow10Tab.map some
theorem Pow.ext {s:St} (h:Pow st) (x:Ext st s) (hw:st.Wf):Pow s:=by
 obtain⟨m,cs,h1,h2⟩:=h
 exact⟨m,cs,x.get hw h1,h2⟩
theorem itoa_call (H:B.H_strconv_Itoa T) (hp:Pow st) {n:Int} (h0: -9223372036854775808≤n) (h1:n≤9223372036854775807):call T (.fn 132 [] []) [.int .i64 n] st=some (.str (Lib.itoa n),st):=by
 obtain⟨m,cs,k1,k2⟩:=hp
 rw[call_entry H.en]
 simp only[List.nil_append,List.append_nil,B.E_strconv_Itoa]
 rw[if_pos ⟨hasPow_of k1 k2,h0,h1⟩]
theorem lexText_tells (H:B.H_lex_Text T) (hwf:st.Wf) (hp:Pow st) {k n:Int} {t:List UInt8} (hs:t.length<1000000000000):Tells T st (.fn 128 [] []) [.agg [.int .i64 k,.int .i64 n,.str t]]
  (.tuple [.str (if rightT k n t=true then textS k n t else []),.int .i64 (if rightT k n t=true then 0 else 130)]):=by
 refine tells_of H.e H.f rfl ?_
 have hx:=Ext.new hwf (.cells 134 true [.int .i64 k,.int .i64 n,.str t])
 have g:hget ((st.nx,AObj.cells 134 true [.int .i64 k,.int .i64 n,.str t])::st.h) st.nx=some (.cells 134 true [.int .i64 k,.int .i64 n,.str t]):=by simp[hget_cons]
 simp[B.lex_Text,go_sem,NO.run,WO.run,RO.run,rd_tok]
 refine(check_tells H.lex_Check hx.wf (by omega)).use fun s1 hs1=> ?_
 have e1:=hx.trans hs1
 have g1:=hs1.get hx.wf g
 have p1:=hp.ext e1 hwf
 cases hr:rightT k n t with
 | false=>simp[go_sem,e1]
 | true=>
   have hb:=right_bound hr
   have hl1:1+t.length<4611686018427387904:=by omega
   have hl2:2+t.length<4611686018427387904:=by omega
   simp[go_sem,RO.run,rdCell,g1]
   by_cases h1:k=1
   ·subst h1
    obtain⟨b0,b1⟩:=hb (.inl rfl)
    have hi:=itoa_call (n:=n) H.strconv_Itoa p1 (by omega) (by omega)
    simp[go_sem,RO.run,rdCell,g1,hi,textS,e1]
   by_cases h2:k=2
   ·subst h2
    have hb2: -2147483648≤n∧n≤2147483648:=by simp[rightT]at hr;omega
    simp[go_sem,RO.run,rdCell,g1]
    refine(realPrint_tells H.real_Print e1.wf hb2.1 hb2.2).use fun s2 x2=> ?_
    simp[go_sem,textS,e1.trans x2]
   by_cases h4:k=4
   ·subst h4
    simp[go_sem,RO.run,rdCell,g1,hl1,textS,e1]
   by_cases h5:k=5
   ·subst h5
    simp[go_sem,RO.run,rdCell,g1,hl2,textS,e1]
   by_cases h6:k=6
   ·subst h6
    simp[go_sem,RO.run,rdCell,g1]
    refine(quote_tells H.lex_Quote e1.wf hs).use fun s2 x2=> ?_
    simp[go_sem,textS,e1.trans x2]
   by_cases h7:k=7
   ·subst h7
    simp[go_sem,RO.run,rdCell,g1,textS,e1]
   by_cases h8:k=8
   ·subst h8
    simp[go_sem,RO.run,rdCell,g1,textS,e1]
   simp[go_sem,RO.run,rdCell,g1,h1,h2,h4,h5,h6,h7,h8,textS,e1]
def tb:Nat→MCode
 | 0=>B.chaseref03_Draft_Token.body
 | k+1=>(tb k).b
end Go.Ev

/- The token of a draft; LexTexts. -/
namespace Go.Ev
open Go
variable {T : Tab} {st : St}
end Go.Ev

/- LexTexts: the law told. -/
namespace Go.Ev
open Go
variable {T : Tab} {st : St}
end Go.Ev

/- Structs of two numbers and a text among the arguments; a table of the library among the objects. -/
namespace Go.Ev
open Go Go.RowKit Go.ChangeShapes Go.WideShapes Go.Deep Go.Joins
def powAV:List AV:=Lib.pow10Tab.map fun z=> .int .u64 z
theorem vrs_ints {X:Cx} {N:Nu}:∀zs:List Int,VRs X N (zs.map fun z=> .int .u64 z) (zs.map fun z=>Value.int .u64 z)
 | []=>rfl
 | z::zs=>⟨_,_,rfl,rfl,vrs_ints zs⟩
theorem pow_of_laid {P:Program} {W:World} {x y:String×DataW Unit} {name:String} {d:DataW Unit} {g:Nat} {t e:TypeId} {n:Nat} (hp:laidMetH P [x,y,(name,d)] W→laidMet P [x,y,(name,d)] W)
  (hd:d=Lib.tabData .u64 Lib.pow10Tab) (hg:P.globalNamed name=some g) (hty:(P.globals[g]?).map (·.type)=some t) (ht:P.underlying t=some (.array n e)) (he:P.underlying e=some (.int .u64)) (hce:P.cellsOf e=1) (hct:P.cellsOf t=n)
  (h:laidMetH P [x,y,(name,d)] W):Lib.TabIs P W name .u64 Lib.pow10Tab:=by
 subst hd
 exact Lib.tabIs_of_head hg hty ht he hce hct (laidMet.tail (laidMet.tail (hp h)))
end Go.Ev

/- strings.Join as an entry of the table. -/
namespace Go.Ev
open Go Go.RowKit
variable {X : Cx} {D : ChkD} {T : Tab} {st : St}
namespace B
def strsOf:List AV→Option (List (List UInt8))
 | []=>some []
 | .str s::r=>(match strsOf r with | some l=>some (s::l) | none=>none)
 | _=>none
def E_strings_Join:Entry:=fun args st=>match args with
 | [.nilslice,.str sep]=>some (.str [],st)
 | [.slice n o len cp,.str sep]=>
   match rdCells st.h n o len with
   | some cs=>
     match strsOf cs with
     | some xs=>if 1≤len∧len≤140737488355328∧(Lib.join xs sep).length≤140737488355328 then some (.str (Lib.join xs sep),st)else none
     | none=>none
   | none=>none
 | _=>none
end B
theorem vrs_strs {N:Nu}:∀{cs:List AV} {xs:List (List UInt8)} {us:List Value},B.strsOf cs=some xs→VRs X N cs us→us=xs.map fun x=>Value.string ⟨x.toArray⟩
 | [],xs,us,h,hv=>by simp only[B.strsOf,Option.some.injEq]at h;subst h;exact hv
 | c::cs,xs,us,h,hv=>by
   cases c <;> simp only[B.strsOf]at h <;> try (cases h;done)
   split at h
   ·rename_i l hl
    cases h
    obtain⟨u,us,rfl,h0,h1⟩:=hv
    cases h0
    rw[vrs_strs hl h1];rfl
   ·cases h
theorem join_entry {f:Nat} (hb:bodyB X.P (X.φ f)=true)
  (h0:∀(sep:ByteArray) (w:World),Calls X.P (X.φ f) #[.slice none 0 0,.string sep] w fun e w'=>e= .returned (.string ⟨#[]⟩)∧w'=w)
  (h:∀(bk o c:Nat) (xs:List ByteArray) (sep:ByteArray) (w:World),(∀(j:Nat) x,xs[j]? =some x→w.cell? ⟨bk,o+j,none⟩=some (.string x))→bk<w.heap.size→xs.length≤140737488355328→xs.length≤c→
    (Lib.join (xs.map (·.data.toList)) sep.data.toList).length≤140737488355328→Calls X.P (X.φ f) #[.slice (some ⟨bk,o,none⟩) xs.length c,.string sep] w fun e w'=>e= .returned (.string ⟨(Lib.join (xs.map (·.data.toList)) sep.data.toList).toArray⟩)∧Below w.heap.size w w'):EntryOK D X f B.E_strings_Join:=by
 refine entry_of_calls2 hb fun args st v st' hF=> ?_
 unfold B.E_strings_Join at hF
 split at hF
 ·cases hF
  refine⟨rfl,fun N us w hr hus=> ?_⟩
  obtain⟨u0,us0,rfl,h00,u1,us1,rfl,h1,rfl⟩:=hus
  cases h00
  cases h1
  exact⟨_,rfl,(h0 _ w).mono fun e w' ⟨a,b⟩=>⟨by simpa using a,by subst b;exact Below.refl _ _⟩⟩
 ·rename_i n o len cp sep
  split at hF
  case h_2=>cases hF
  rename_i cs hcs
  split at hF
  case h_2=>cases hF
  rename_i xs hxs
  split at hF
  case isFalse=>cases hF
  rename_i hc
  cases hF
  refine⟨rfl,fun N us w hr hus=> ?_⟩
  obtain⟨u0,us0,rfl,h00,u1,us1,rfl,h1,rfl⟩:=hus
  cases h1
  obtain⟨a,cpv,ha,rfl,hle,_⟩:=h00
  obtain⟨a',us,ha',hv,hl,hcell⟩:=rdCells_sound hr hcs
  rw[ha]at ha'
  cases ha'
  have e:=vrs_strs hxs hv
  subst e
  have hlen:xs.length=len:=by simpa using hl
  have hget:∀(j:Nat) (x:ByteArray),(xs.map fun x=>(⟨x.toArray⟩:ByteArray))[j]? =some x→w.cell? ⟨a.block,a.off+o+j,none⟩=some (.string x):=by
   intro j x hj
   rw[List.getElem?_map]at hj
   cases hx:xs[j]? with
   | none=>rw[hx]at hj;cases hj
   | some y=>
     rw[hx]at hj
     cases hj
     have:=hcell j (.string ⟨y.toArray⟩) (by rw[List.getElem?_map,hx];rfl)
     rw[Nat.add_assoc]
     exact this
  have hbk:a.block<w.heap.size:=by
   have hx0:∃y,xs[0]? =some y:=⟨_,List.getElem?_eq_getElem (by omega)⟩
   obtain⟨y,hy⟩:=hx0
   have:=hcell 0 (.string ⟨y.toArray⟩) (by rw[List.getElem?_map,hy];rfl)
   unfold World.cell? at this
   cases hh:w.heap[a.block]? with
   | none=>simp[hh]at this
   | some ob=>exact(Array.getElem?_eq_some_iff.1 hh).1
  have hmm:(xs.map fun x=>(⟨x.toArray⟩:ByteArray)).map (·.data.toList)=xs:=by simp[Function.comp_def]
  have hcall:=h a.block (a.off+o) cpv (xs.map fun x=>(⟨x.toArray⟩:ByteArray)) ⟨sep.toArray⟩ w hget hbk (by simp;omega) (by simp;omega) (by rw[hmm];simpa using hc.2.2)
  rw[hmm]at hcall
  rw[List.length_map,hlen]at hcall
  exact⟨_,rfl,hcall.mono fun e w' ⟨a,b⟩=>⟨by simpa using a,b⟩⟩
 ·cases hF
end Go.Ev
